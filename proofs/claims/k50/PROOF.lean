import PyProof.Rows.All
import Wide.All
import OpenK.AllK
import Wide.FinOn
import HandS.ForMost
import HandS.Flow
import HandS.Style
import HandS.IsInst
import HandS.StrMore
import HandS.Deep
import HandS.Replace
import KE.DataCmp
import KE.SortData
import PySem.Challenge.RW_lineworks_k50_values_are_ordered
set_option Elab.async false
set_option linter.all false
section

/-! Z1: a small language of plain values: what a Python text of this program computes, without a heap. -/
namespace Z
open PySem L2

abbrev Tx := List Nat

/-- plain data -/
inductive D where
  | non | bl (b : Bool) | int (i : Int) | str (s : Tx) | fn (f : Nat)
  | tup (xs : List D) | lst (xs : List D) | scr (ns : List Int) | dct (ks vs : List D) | ins (c : Nat) (ns : List Nat) (vs : List D)
  deriving Inhabited, Repr

/-- a value: plain data, or the number of a cell -/
inductive Vl where
  | d (x : D) | p (n : Nat)
  deriving Inhabited, Repr

/-- what stands in a cell -/
inductive Cell where
  | dead | lst (xs : List Vl) | dct (kvs : List (D × Vl)) | ins (c : Nat) (fs : List (Nat × Vl))
  deriving Inhabited, Repr

abbrev Sto := List Cell
abbrev Env := List (Option Vl)
structure Exn where
  cls : Nat
  fs : List (Nat × D)
  deriving Inhabited, Repr

inductive Res (α : Type) where
  | ok (a : α) (S : Sto) | exc (e : Exn) (S : Sto) | bad
  deriving Inhabited, Repr
def Res.bind {α β : Type} (r : Res α) (f : α → Sto → Res β) : Res β :=
  match r with
  | .ok a S => f a S
  | .exc e S => .exc e S
  | .bad => .bad

inductive Op where
  | add | sub | mul | fdiv | mod | pow | shl
  deriving Inhabited, Repr, DecidableEq
inductive Cm where
  | eq | ne | lt | le | gt | ge | is | isn | mem | nmem
  deriving Inhabited, Repr, DecidableEq
/-- built-in functions -/
inductive Bf where
  | len | abs | int | str | list | tuple | sum | min | max | any | all | sorted | range | set | dict | repr | isinst (ts : List Nat)
  deriving Inhabited, Repr, DecidableEq
/-- built-in methods -/
inductive Bm where
  | append | extend | pop | join | count | rfind | startswith | replace | lstrip | split | index | indexL | indexS | get | items | setdefault
  deriving Inhabited, Repr, DecidableEq
/-- what is walked -/
inductive Ik where
  | seq | range | rev | enum | zip | items
  deriving Inhabited, Repr, DecidableEq
inductive Tg where
  | var (i : Nat) | tup (ts : List Tg)
  deriving Inhabited, Repr

inductive Ex where
  | var (i : Nat)
  | con (x : D)
  | glob (g : Nat)
  | op (o : Op) (a b : Ex)
  | neg (a : Ex)
  | cmp (c : Cm) (a b : Ex)
  | chain (c c' : Cm) (a b e : Ex)
  | and (a b : Ex)
  | or (a b : Ex)
  | not (a : Ex)
  | ite (c a b : Ex)
  | tup (es : List Ex)
  | lst (cell : Bool) (es : List Ex)
  | dct (cell : Bool) (ks vs : List Ex)
  | ix (a b : Ex)
  | sl (a : Ex) (lo hi : Option Ex)
  | fld (a : Ex) (f : Nat)
  | call (f : Nat) (as : List Ex)
  | callv (i : Nat) (as : List Ex)
  | meth (o : Ex) (m : Nat) (as : List Ex)
  | make (c : Nat) (as : List Ex)
  | bf (b : Bf) (cell : Bool) (as : List Ex)
  | bm (m : Bm) (o : Ex) (as : List Ex)
  | lc (cell : Bool) (e : Ex) (t : Tg) (own : List Nat) (k : Ik) (its : List Ex) (c : Option Ex)
  deriving Inhabited, Repr

inductive St where
  | asg (t : Tg) (e : Ex)
  | sub (o i e : Ex)
  | fld (o : Ex) (f : Nat) (e : Ex)
  | aug (i : Nat) (o : Op) (e : Ex)
  | expr (e : Ex)
  | ret (e : Ex)
  | ifs (c : Ex) (a b : List St)
  | whl (c : Ex) (b : List St)
  | fors (t : Tg) (k : Ik) (its : List Ex) (b : List St)
  | brk | cnt | pass
  | frz (xs : List Nat)
  deriving Inhabited, Repr

/-- a def: the number of its slots, its parameters first -/
structure Df where
  slots : Nat
  params : Nat
  body : List St
  keep : Bool
  alone : Bool := false
  deriving Inhabited, Repr

/-- what stands at the module's level -/
structure Gm where
  con : Nat → D
  defs : Nat → Option Df
  meth : Nat → Nat → Option Nat
  fuel : Nat

/-! ### operations -/
mutual
/-- bools as the ints that they count as -/
def nz : D → D
  | .bl b => .int (if b then 1 else 0)
  | .tup xs => .tup (nzs xs)
  | .lst xs => .lst (nzs xs)
  | x => x
def nzs : List D → List D
  | [] => []
  | x :: xs => nz x :: nzs xs
end
mutual
/-- made of None, bools, ints, texts, lists, tuples alone, not too deep -/
def isData : Nat → D → Bool
  | _, .non => true
  | _, .bl _ => true
  | _, .int _ => true
  | _, .str s => s.all fun c => decide (c < 1114112)
  | n, .tup xs => match n with
    | 0 => false
    | n + 1 => isDatas n xs
  | n, .lst xs => match n with
    | 0 => false
    | n + 1 => isDatas n xs
  | _, _ => false
def isDatas : Nat → List D → Bool
  | _, [] => true
  | n, x :: xs => isData n x && isDatas n xs
end
def isFlat : D → Bool
  | .non => true
  | .bl _ => true
  | .int _ => true
  | .str _ => true
  | _ => false
mutual
def D.beq : D → D → Bool
  | .non, y => match y with | .non => true | _ => false
  | .bl a, y => match y with | .bl b => a == b | _ => false
  | .int a, y => match y with | .int b => decide (a = b) | _ => false
  | .str a, y => match y with | .str b => decide (a = b) | _ => false
  | .fn a, y => match y with | .fn b => a == b | _ => false
  | .tup a, y => match y with | .tup b => D.beqs a b | _ => false
  | .lst a, y => match y with | .lst b => D.beqs a b | _ => false
  | .scr a, y => match y with | .scr b => decide (a = b) | _ => false
  | .dct a c, y => match y with | .dct b d => D.beqs a b && D.beqs c d | _ => false
  | .ins c n a, y => match y with | .ins c' n' b => c == c' && decide (n = n') && D.beqs a b | _ => false
def D.beqs : List D → List D → Bool
  | [], y => match y with | [] => true | _ => false
  | x :: xs, z => match z with | y :: ys => D.beq x y && D.beqs xs ys | _ => false
end
/-- Python's == on data -/
def eqv (x y : D) : Bool := D.beq (nz x) (nz y)

mutual
/-- as the library's own plain data -/
def toPy : D → PyData
  | .non => .none
  | .bl b => .bool b
  | .int i => .int i
  | .str s => .str ⟨s.toArray⟩
  | .tup xs => .tuple (toPys xs)
  | .lst xs => .list (toPys xs)
  | _ => .none
def toPys : List D → List PyData
  | [] => []
  | x :: xs => toPy x :: toPys xs
end
/-- two data that Python's < can hold against each other, place by place -/
def alikeD (a b : D) : Bool := PySem.W.alike (toPy a) (toPy b)
def ltDt (a b : D) : Bool := PySem.W.dataLt (toPy a) (toPy b)
def noneD : D → Bool
  | .non => true
  | _ => false
def ordOk (a b : D) : Bool := isData 64 a && isData 64 b && alikeD a b && !noneD a
def isTup1 : D → Bool
  | .tup (_ :: _) => true
  | _ => false
def isTup0 : D → Bool
  | .tup _ => true
  | _ => false
/-- what sorted takes -/
def sortOk (ds : List D) : Bool := ds.all (fun a => isData 64 a && ds.all fun b => alikeD a b) && (ds.all isTup1 || ds.all fun d => !noneD d && !isTup0 d)
def leDt (a b : D) : Bool := !ltDt b a

def most : Nat := 16777216

def cut {α : Type} (xs : List α) (lo hi : Option Int) : List α := (xs.drop (HT.sIx xs.length 0 lo)).take (HT.sIx xs.length xs.length hi - HT.sIx xs.length 0 lo)

/-- the items of a list or a tuple, also of one in a cell -/
def seqOf (v : Vl) (S : Sto) : Option (List Vl) :=
  match v with
  | .d (.lst xs) => some (xs.map .d)
  | .d (.tup xs) => some (xs.map .d)
  | .d (.scr ns) => some (ns.map fun i => .d (.int i))
  | .p n => match S[n]? with
    | some (.lst xs) => some xs
    | _ => none
  | _ => none
def listOf (v : Vl) (S : Sto) : Option (List Vl) :=
  match v with
  | .d (.lst xs) => some (xs.map .d)
  | .p n => match S[n]? with
    | some (.lst xs) => some xs
    | _ => none
  | _ => none
def Vl.pure? : Vl → Option D
  | .d x => some x
  | .p _ => none
def pures : List Vl → Option (List D)
  | [] => some []
  | v :: vs => match v, pures vs with
    | .d x, some xs => some (x :: xs)
    | _, _ => none

def cMul (i j : Int) : Bool := (decide (-(2 ^ 64) < i) && decide (i < 2 ^ 64)) || (decide (-(2 ^ 64) < j) && decide (j < 2 ^ 64))
def cPow (i j : Int) : Bool := decide (0 ≤ j) && decide (j ≤ 1000000) && decide (i.natAbs < 2 ^ 64)

/-- two ints that bear C -/
def opI (C : Int → Int → Bool) (g : Int → Int → Int) (x y : Vl) (S : Sto) : Res Vl :=
  match x with
  | .d (.int i) => match y with
    | .d (.int j) => if C i j then .ok (.d (.int (g i j))) S else .bad
    | _ => .bad
  | _ => .bad
def catL (x y : Vl) (S : Sto) : Res Vl :=
  match listOf x S, listOf y S with
    | some a, some b => match pures a, pures b with
      | some a, some b => if decide (a.length + b.length ≤ most) then .ok (.d (.lst (a ++ b))) S else .bad
      | _, _ => .bad
    | _, _ => .bad
def opAdd (x y : Vl) (S : Sto) : Res Vl :=
  match x with
  | .d (.int i) => match y with
    | .d (.int j) => .ok (.d (.int (i + j))) S
    | _ => .bad
  | .d (.str a) => match y with
    | .d (.str b) => if decide (a.length + b.length ≤ most) then .ok (.d (.str (a ++ b))) S else .bad
    | _ => .bad
  | .d (.tup a) => match y with
    | .d (.tup b) => if !a.isEmpty && decide (a.length + b.length ≤ most) then .ok (.d (.tup (a ++ b))) S else .bad
    | _ => .bad
  | x => catL x y S
def repL (x : Vl) (k : Int) (S : Sto) : Res Vl :=
  match listOf x S with
  | some a => match pures a with
    | some a => if decide (-(2 ^ 63) ≤ k) && decide (k < 2 ^ 63) && decide (a.length * k.toNat ≤ most) then .ok (.d (.lst (List.replicate k.toNat a).flatten)) S else .bad
    | none => .bad
  | none => .bad
def opMul (x y : Vl) (S : Sto) : Res Vl :=
  match y with
  | .d (.int j) => match x with
    | .d (.int i) => if cMul i j then .ok (.d (.int (i * j))) S else .bad
    | x => repL x j S
  | _ => .bad
def binop (o : Op) (x y : Vl) (S : Sto) : Res Vl :=
  match o with
  | .add => opAdd x y S
  | .sub => opI (fun _ _ => true) (fun i j => i - j) x y S
  | .mul => opMul x y S
  | .fdiv => opI (fun _ j => decide (0 < j) && decide (j < 1073741824)) (fun i j => i / j) x y S
  | .mod => opI (fun _ j => decide (0 < j)) (fun i j => i % j) x y S
  | .pow => opI cPow (fun i j => i ^ j.toNat) x y S
  | .shl => opI cPow (fun i j => i * 2 ^ j.toNat) x y S

def isNone : Vl → Bool
  | .d .non => true
  | _ => false
/-- data, also of a list in a cell -/
def dataOf (v : Vl) (S : Sto) : Option D :=
  match v with
  | .d x => some x
  | .p n => match S[n]? with
    | some (.lst xs) => (pures xs).map .lst
    | _ => none
def eqOk (a b : D) : Bool := (isFlat a && isFlat b) || (isData 64 a && isData 64 b)
def kvFind {α : Type} (kvs : List (D × α)) (k : D) : Option α := (kvs.find? fun kv => eqv kv.1 k).map (·.2)
def kvPut {α : Type} (kvs : List (D × α)) (k : D) (v : α) : List (D × α) :=
  if kvs.any (fun kv => eqv kv.1 k) then kvs.map (fun kv => if eqv kv.1 k then (kv.1, v) else kv) else kvs ++ [(k, v)]
def memFlat (x : D) (ds : List D) : Option Bool := if isFlat x && ds.all isFlat then some (ds.any fun e => eqv e x) else none
def contains (x y : Vl) (S : Sto) : Option Bool :=
  match x with
  | .p _ => none
  | .d x => match seqOf y S with
    | some xs => match pures xs with
      | some ds => match memFlat x ds with
        | some b => some b
        | none => if (listOf y S).isSome && isData 64 x && isData 64 (.lst ds) then some (ds.any fun e => eqv e x) else none
      | none => none
    | none => match y with
      | .d (.str z) => match x with
        | .str [c] => some (decide (c ∈ z))
        | _ => none
      | _ => none
/-- texts by code points -/
def ltTx (a b : Tx) : Bool := decide (a < b)
mutual
/-- Python's < on ints, texts, tuples, lists of these -/
def ltD : D → D → Option Bool
  | .int i, .int j => some (decide (i < j))
  | .str a, .str b => some (ltTx a b)
  | .tup a, .tup b => ltDs a b
  | .lst a, .lst b => ltDs a b
  | _, _ => none
def ltDs : List D → List D → Option Bool
  | [], [] => some false
  | [], _ :: _ => some true
  | _ :: _, [] => some false
  | x :: xs, y :: ys => if eqv x y then ltDs xs ys else ltD x y
end
def cEqv (neg : Bool) (x y : Vl) (S : Sto) : Res Vl :=
  match dataOf x S, dataOf y S with
    | some a, some b => if eqOk a b then .ok (.d (.bl (if neg then !eqv a b else eqv a b))) S else .bad
    | _, _ => .bad
/-- ints, texts -/
def cOrd (f : Int → Int → Bool) (g : Tx → Tx → Bool) (h : D → D → Bool) (x y : Vl) (S : Sto) : Res Vl :=
  match x with
  | .d (.tup a) => match y with
    | .d (.tup b) => if ordOk (.tup a) (.tup b) then .ok (.d (.bl (h (.tup a) (.tup b)))) S else .bad
    | _ => .bad
  | .d (.int i) => match y with
    | .d (.int j) => .ok (.d (.bl (f i j))) S
    | _ => .bad
  | .d (.str i) => match y with
    | .d (.str j) => .ok (.d (.bl (g i j))) S
    | _ => .bad
  | _ => .bad
def cIs (neg : Bool) (x y : Vl) (S : Sto) : Res Vl :=
  match y with
    | .d .non => .ok (.d (.bl (if neg then !isNone x else isNone x))) S
    | .d (.bl b) => match x with
      | .d (.bl a) => .ok (.d (.bl (if neg then !decide (a = b) else decide (a = b)))) S
      | _ => .bad
    | _ => .bad
def cMem (neg : Bool) (x y : Vl) (S : Sto) : Res Vl :=
  match contains x y S with
  | some b => .ok (.d (.bl (if neg then !b else b))) S
  | none => .bad
def cmpop (c : Cm) (x y : Vl) (S : Sto) : Res Vl :=
  match c with
  | .eq => cEqv false x y S
  | .ne => cEqv true x y S
  | .lt => cOrd (fun i j => decide (i < j)) ltTx ltDt x y S
  | .gt => cOrd (fun i j => decide (j < i)) (fun a b => ltTx b a) (fun a b => ltDt b a) x y S
  | .le => cOrd (fun i j => decide (i ≤ j)) (fun a b => !ltTx b a) (fun a b => !ltDt b a) x y S
  | .ge => cOrd (fun i j => decide (j ≤ i)) (fun a b => !ltTx a b) (fun a b => !ltDt a b) x y S
  | .is => cIs false x y S
  | .isn => cIs true x y S
  | .mem => cMem false x y S
  | .nmem => cMem true x y S

def truthy (v : Vl) (S : Sto) : Option Bool :=
  match v with
  | .d .non => some false
  | .d (.bl b) => some b
  | .d (.int i) => some (i != 0)
  | .d (.str s) => if decide (s.length ≤ most) then some ((s.length : Int) != 0) else none
  | .d (.lst xs) => some (!xs.isEmpty)
  | .d (.tup xs) => some (!xs.isEmpty)
  | .p n => match S[n]? with
    | some (.lst xs) => some (!xs.isEmpty)
    | _ => none
  | _ => none

def index (x i : Vl) (S : Sto) : Res Vl :=
  match x, i with
  | .d (.lst xs), .d (.int i) => match atI xs i with
    | some y => .ok (.d y) S
    | none => .bad
  | .d (.tup xs), .d (.int i) => match atI xs i with
    | some y => .ok (.d y) S
    | none => .bad
  | .d (.str xs), .d (.int i) => if decide (xs.length ≤ most) then (match atI xs i with
    | some c => .ok (.d (.str [c])) S
    | none => .bad) else .bad
  | .d (.dct ks vs), .d k => match kvFind (ks.zip vs) k with
    | some y => .ok (.d y) S
    | none => .bad
  | .p n, .d k => match S[n]? with
    | some (.lst xs) => match k with
      | .int i => match atI xs i with
        | some y => .ok y S
        | none => .bad
      | _ => .bad
    | some (.dct kvs) => match kvFind kvs k with
      | some y => .ok y S
      | none => .bad
    | _ => .bad
  | _, _ => .bad
def sliceL (x : Vl) (lo hi : Option Int) (S : Sto) : Res Vl :=
  match listOf x S with
    | some a => match pures a with
      | some a => .ok (.d (.lst (cut a lo hi))) S
      | none => .bad
    | none => .bad
def slice (x : Vl) (lo hi : Option Int) (S : Sto) : Res Vl :=
  match x with
  | .d (.str s) => if decide (s.length ≤ most) then .ok (.d (.str (cut s lo hi))) S else .bad
  | .d (.tup xs) => if !(HT.sIx xs.length 0 lo == 0 && HT.sIx xs.length xs.length hi == xs.length) then .ok (.d (.tup (cut xs lo hi))) S else .bad
  | x => sliceL x lo hi S
def kwFind {α : Type} (fs : List (Nat × α)) (f : Nat) : Option α := (fs.find? fun p => p.1 == f).map (·.2)
def kwPut {α : Type} (fs : List (Nat × α)) (f : Nat) (v : α) : List (Nat × α) :=
  if fs.any (fun p => p.1 == f) then fs.map (fun p => if p.1 == f then (p.1, v) else p) else fs ++ [(f, v)]
def field (x : Vl) (f : Nat) (S : Sto) : Res Vl :=
  match x with
  | .p n => match S[n]? with
    | some (.ins _ fs) => match kwFind fs f with
      | some v => .ok v S
      | none => .bad
    | _ => .bad
  | .d (.ins _ ns vs) => match kwFind (ns.zip vs) f with
    | some v => .ok (.d v) S
    | none => .bad
  | _ => .bad

/-- a new list, in a cell or as data -/
def newList (cell : Bool) (vs : List Vl) (S : Sto) : Res Vl :=
  if decide (vs.length ≤ most) then
    if cell then .ok (.p S.length) (S ++ [.lst vs])
    else match pures vs with
      | some ds => .ok (.d (.lst ds)) S
      | none => .bad
  else .bad

/-- the types of isinstance: 0 int, 1 str, 2 list, 3 tuple, 4 bool; what a value's type is a part of -/
def typeOf (v : Vl) (S : Sto) : Option (List Nat) :=
  match v with
  | .d .non => some []
  | .d (.bl _) => some [0, 4]
  | .d (.int _) => some [0]
  | .d (.str _) => some [1]
  | .d (.lst _) => some [2]
  | .d (.tup _) => some [3]
  | .p n => match S[n]? with
    | some (.lst _) => some [2]
    | _ => none
  | _ => none
def isTypes (v : Vl) (S : Sto) (ts : List Nat) : Option Bool := (typeOf v S).map fun k => ts.any fun t => k.contains t
def intL : List D → Option (List Int)
  | [] => some []
  | .int i :: r => (intL r).map (i :: ·)
  | _ => none
def boolL : List D → Option (List Bool)
  | [] => some []
  | .bl i :: r => (boolL r).map (i :: ·)
  | _ => none
def textL : List D → Option (List Tx)
  | [] => some []
  | .str i :: r => (textL r).map (i :: ·)
  | _ => none
def bLen (v : Vl) (S : Sto) : Res Vl :=
  match seqOf v S with
  | some xs => .ok (.d (.int xs.length)) S
  | none => match v with
    | .d (.str s) => if decide (s.length ≤ most) then .ok (.d (.int s.length)) S else .bad
    | _ => .bad
def bInt (v : Vl) (S : Sto) : Res Vl :=
  match v with
  | .d (.int i) => .ok (.d (.int i)) S
  | .d (.bl b) => .ok (.d (.int (if b then 1 else 0))) S
  | _ => .bad
def bAbs (v : Vl) (S : Sto) : Res Vl :=
  match v with
  | .d (.int i) => .ok (.d (.int (if i < 0 then -i else i))) S
  | _ => .bad
def bList (cell : Bool) (v : Vl) (S : Sto) : Res Vl :=
  match seqOf v S with
  | some xs => newList cell xs S
  | none => .bad
def bTuple (v : Vl) (S : Sto) : Res Vl :=
  match v with
  | .d (.tup xs) => .ok (.d (.tup xs)) S
  | _ => match listOf v S with
    | some xs => match pures xs with
      | some ds => .ok (.d (.tup ds)) S
      | none => .bad
    | none => .bad
/-- a list of plain values of one kind -/
def bOf {τ : Type} (f : List D → Option τ) (g : τ → D) (v : Vl) (S : Sto) : Res Vl :=
  match listOf v S with
  | some xs => match pures xs with
    | some ds => match f ds with
      | some t => .ok (.d (g t)) S
      | none => .bad
    | none => .bad
  | none => .bad
def bSorted (cell : Bool) (v : Vl) (S : Sto) : Res Vl :=
  match listOf v S with
  | some xs => match pures xs with
    | some ds => if sortOk ds then newList cell ((ds.mergeSort leDt).map .d) S else .bad
    | none => .bad
  | none => .bad
def bIsi (ts : List Nat) (v : Vl) (S : Sto) : Res Vl :=
  match isTypes v S ts with
  | some b => .ok (.d (.bl b)) S
  | none => .bad
def builtin (b : Bf) (cell : Bool) (as : List Vl) (S : Sto) : Res Vl :=
  match as with
  | [v] => match b with
    | .len => bLen v S
    | .abs => bAbs v S
    | .int => bInt v S
    | .list => bList cell v S
    | .tuple => bTuple v S
    | .sum => bOf intL (fun is => .int is.sum) v S
    | .any => bOf boolL (fun bs => .bl (bs.any id)) v S
    | .all => bOf boolL (fun bs => .bl (bs.all id)) v S
    | .isinst ts => bIsi ts v S
    | .sorted => bSorted cell v S
    | _ => .bad
  | [v, w] => match b with
    | .min => opI (fun _ _ => true) (fun i j => if j < i then j else i) v w S
    | .max => opI (fun _ _ => true) (fun i j => if j > i then j else i) v w S
    | _ => .bad
  | _ => .bad

def mk (s : Tx) : Str := ⟨s.toArray⟩
def un (s : Str) : Tx := s.cps.toList
def tx1 (f : Str → Str → D) (a b : Vl) (S : Sto) : Res Vl :=
  match a with
  | .d (.str a) => match b with
    | .d (.str b) => .ok (.d (f (mk a) (mk b))) S
    | _ => .bad
  | _ => .bad
def mAppend (o v : Vl) (S : Sto) : Res Vl :=
  match o with
  | .p n => match S[n]? with
    | some (.lst xs) => if decide (xs.length < most) then .ok (.d .non) (S.set n (.lst (xs ++ [v]))) else .bad
    | _ => .bad
  | _ => .bad
def mExtend (o v : Vl) (S : Sto) : Res Vl :=
  match o with
  | .p n => match S[n]? with
    | some (.lst xs) => match listOf v S with
      | some ys => if decide (xs.length + ys.length ≤ most) then .ok (.d .non) (S.set n (.lst (xs ++ ys))) else .bad
      | none => .bad
    | _ => .bad
  | _ => .bad
def mPop (o : Vl) (S : Sto) : Res Vl :=
  match o with
  | .p n => match S[n]? with
    | some (.lst xs) => match xs[xs.length - 1]? with
      | some v => .ok v (S.set n (.lst xs.dropLast))
      | none => .bad
    | _ => .bad
  | _ => .bad
def mIndex (o v : Vl) (S : Sto) : Res Vl :=
  match listOf o S, v with
  | some xs, .d y => match pures xs with
    | some ds => if isData 64 (.lst ds) && isData 64 y then (match ds.findIdx? (fun e => eqv e y) with
      | some j => .ok (.d (.int (j : Int))) S
      | none => .bad) else .bad
    | none => .bad
  | _, _ => .bad
/-- where a text stands first in a text -/
def sIndex (o v : Vl) (S : Sto) : Res Vl :=
  match o with
  | .d (.str a) => match v with
    | .d (.str b) => match Builtin.Str.occurrences (mk a) (mk b) 0 (mk a).length 1 with
      | i :: _ => .ok (.d (.int (i : Nat))) S
      | [] => .bad
    | _ => .bad
  | _ => .bad
def mJoin (o v : Vl) (S : Sto) : Res Vl :=
  match o with
  | .d (.str sep) => match listOf v S with
    | some xs => match pures xs with
      | some ds => match textL ds with
        | some ts => if decide ((ts.map List.length).sum + ts.length * sep.length ≤ most) then .ok (.d (.str (un (Txt.join (mk sep) (ts.map mk))))) S else .bad
        | none => .bad
      | none => .bad
    | none => .bad
  | _ => .bad
def isStr : Vl → Bool
  | .d (.str _) => true
  | _ => false
/-- the object is of the type whose method this is -/
def bmTy (m : Bm) (o : Vl) (S : Sto) : Bool :=
  match m with
  | .append => (listOf o S).isSome
  | .extend => (listOf o S).isSome
  | .pop => (listOf o S).isSome
  | .indexL => (listOf o S).isSome
  | .index => (listOf o S).isSome || isStr o
  | _ => isStr o
def method (m : Bm) (o : Vl) (as : List Vl) (S : Sto) : Res Vl :=
  match as with
  | [] => match m with
    | .pop => mPop o S
    | _ => .bad
  | [v] => match m with
    | .append => mAppend o v S
    | .extend => mExtend o v S
    | .join => mJoin o v S
    | .indexL => mIndex o v S
    | .indexS => sIndex o v S
    | .index => if isStr o then sIndex o v S else mIndex o v S
    | .count => tx1 (fun a b => .int (Txt.count a b)) o v S
    | .rfind => tx1 (fun a b => .int (Txt.rfind a b)) o v S
    | .startswith => tx1 (fun a b => .bl (Txt.startswith a b)) o v S
    | _ => .bad
  | _ => .bad

/-- the items of what is walked, and the cell that is shut meanwhile -/
def lockOf (v : Vl) (S : Sto) : Option (Nat × Cell) := match v with
    | .p n => (S[n]?).map fun c => (n, c)
    | _ => none
def rngs (i j : Int) : List Vl := (List.range (j - i).toNat).map fun (n : Nat) => .d (.int (i + (n : Int)))
def inRng (i : Int) : Bool := decide (-(2 ^ 62) ≤ i) && decide (i < 2 ^ 62)
def rng2 (u v : Vl) : Option (List Vl) :=
  match u with
  | .d (.int i) => match v with
    | .d (.int j) => if inRng i && inRng j then some (rngs i j) else none
    | _ => none
  | _ => none
def walked (k : Ik) (as : List Vl) (S : Sto) : Option (List Vl × Option (Nat × Cell)) :=
  match as with
  | [v] => match k with
    | .seq => match v with
      | .d (.str s) => some (s.map fun c => .d (.str [c]), none)
      | v => (seqOf v S).map fun xs => (xs, lockOf v S)
    | .range => match v with
      | .d (.int n) => if decide (-(2 ^ 62) ≤ n) && decide (n < 2 ^ 62) then some ((List.range n.toNat).map fun (i : Nat) => .d (.int (i : Int)), none) else none
      | _ => none
    | .rev => (listOf v S).map fun xs => (xs.reverse, lockOf v S)
    | .enum => match listOf v S with
      | some xs => match pures xs with
        | some ds => some (((List.range ds.length).zip ds).map fun p => .d (.tup [.int (p.1 : Int), p.2]), lockOf v S)
        | none => none
      | none => none
    | _ => none
  | [u, v] => match k with
    | .range => (rng2 u v).map fun xs => (xs, none)
    | _ => none
  | _ => none

mutual
def bindT : Tg → Vl → Env → Option Env
  | .var i, v, ρ => some (ρ.set i (some v))
  | .tup ts, .d (.tup xs), ρ => bindTs ts xs ρ
  | .tup _, _, _ => none
def bindTs : List Tg → List D → Env → Option Env
  | [], [], ρ => some ρ
  | t :: ts, x :: xs, ρ => match bindT t (.d x) ρ with
    | some ρ' => bindTs ts xs ρ'
    | none => none
  | _, _, _ => none
end

def walkF (k : Ik) (vs : List Vl) (S : Sto) : Res (List Vl × Option (Nat × Cell)) := match walked k vs S with
  | some q => .ok q S
  | none => .bad
mutual
def Tg.slots : Tg → List Nat
  | .var i => [i]
  | .tup ts => Tg.slotss ts
def Tg.slotss : List Tg → List Nat
  | [] => []
  | t :: ts => t.slots ++ Tg.slotss ts
end

/-! ### expressions -/
def pick (v : Option Vl) (S : Sto) : Res Vl := match v with
  | some v => .ok v S
  | none => .bad
def tru (v : Vl) (S : Sto) : Res Bool := match truthy v S with
  | some b => .ok b S
  | none => .bad
def lock (S : Sto) : Option (Nat × Cell) → Sto
  | some (n, _) => S.set n .dead
  | none => S
def unlock (S : Sto) : Option (Nat × Cell) → Sto
  | some (n, c) => S.set n c
  | none => S
def wipe (ρ : Env) : List Nat → Env
  | [] => ρ
  | v :: vs => (wipe ρ vs).set v none
/-- the turns of a comprehension: what is made so far ahead of what is to come -/
def turns (f : Env → Sto → Res (Option Vl)) (t : Tg) (ρ : Env) : List Vl → List Vl → Sto → Res (List Vl)
  | [], acc, S => .ok acc S
  | v :: vs, acc, S => match bindT t v ρ with
    | none => .bad
    | some ρ' => match f ρ' S with
      | .ok (some y) S' => if decide (acc.length < most) then turns f t ρ vs (acc ++ [y]) S' else .bad
      | .ok none S' => turns f t ρ vs acc S'
      | _ => .bad

mutual
def ev (G : Gm) (rc : Nat → List Vl → Sto → Res Vl) : Ex → Env → Sto → Res Vl
  | .var i, ρ, S => pick ((ρ[i]?).bind id) S
  | .con x, _, S => .ok (.d x) S
  | .glob g, _, S => .ok (.d (G.con g)) S
  | .op o a b, ρ, S => (ev G rc a ρ S).bind fun x S => (ev G rc b ρ S).bind fun y S => binop o x y S
  | .neg a, ρ, S => (ev G rc a ρ S).bind fun x S => match x with
    | .d (.int i) => .ok (.d (.int (-i))) S
    | _ => .bad
  | .cmp c a b, ρ, S => (ev G rc a ρ S).bind fun x S => (ev G rc b ρ S).bind fun y S => cmpop c x y S
  | .chain c c' a b e, ρ, S => (ev G rc a ρ S).bind fun x S => (ev G rc b ρ S).bind fun y S => (cmpop c x y S).bind fun r S => match r with
    | .d (.bl true) => (ev G rc e ρ S).bind fun z S => cmpop c' y z S
    | .d (.bl false) => .ok (.d (.bl false)) S
    | _ => .bad
  | .and a b, ρ, S => (ev G rc a ρ S).bind fun x S => (tru x S).bind fun k S => if k then ev G rc b ρ S else .ok x S
  | .or a b, ρ, S => (ev G rc a ρ S).bind fun x S => (tru x S).bind fun k S => if k then .ok x S else ev G rc b ρ S
  | .not a, ρ, S => (ev G rc a ρ S).bind fun x S => (tru x S).bind fun k S => .ok (.d (.bl (!k))) S
  | .ite c a b, ρ, S => (ev G rc c ρ S).bind fun x S => (tru x S).bind fun k S => if k then ev G rc a ρ S else ev G rc b ρ S
  | .tup es, ρ, S => (evs G rc es ρ S).bind fun vs S => match pures vs with
    | some ds => if decide (ds.length ≤ most) then .ok (.d (.tup ds)) S else .bad
    | none => .bad
  | .lst cell es, ρ, S => (evs G rc es ρ S).bind fun vs S => newList cell vs S
  | .dct _ _ _, _, _ => .bad
  | .ix a b, ρ, S => (ev G rc a ρ S).bind fun x S => (ev G rc b ρ S).bind fun y S => index x y S
  | .sl a lo hi, ρ, S => (ev G rc a ρ S).bind fun x S => (evo G rc lo ρ S).bind fun l S => (evo G rc hi ρ S).bind fun h S => slice x l h S
  | .fld a f, ρ, S => (ev G rc a ρ S).bind fun x S => field x f S
  | .call f as, ρ, S => (evs G rc as ρ S).bind fun vs S => rc f vs S
  | .callv i as, ρ, S => match (ρ[i]?).bind id with
    | some (.d (.fn f)) => (evs G rc as ρ S).bind fun vs S => rc f vs S
    | _ => .bad
  | .meth o m as, ρ, S => (ev G rc o ρ S).bind fun x S => match x with
    | .p n => match S[n]? with
      | some (.ins c _) => match G.meth c m with
        | some f => (evs G rc as ρ S).bind fun vs S => rc f (x :: vs) S
        | none => .bad
      | _ => .bad
    | _ => .bad
  | .make _ _, _, _ => .bad
  | .bf b cell as, ρ, S => (evs G rc as ρ S).bind fun vs S => builtin b cell vs S
  | .bm m o as, ρ, S => (ev G rc o ρ S).bind fun x S => if bmTy m x S then (evs G rc as ρ S).bind fun vs S => method m x vs S else .bad
  | .lc cell e t own k its c, ρ, S => ((evs G rc its ρ S).bind (walkF k)).bind fun q S =>
    (turns (fun ρ S => (evc G rc c ρ S).bind fun b S => if b then (ev G rc e ρ S).bind fun y S => .ok (some y) S else .ok none S) t (wipe ρ own) q.1 [] (lock S q.2)).bind fun ys S => newList cell ys (unlock S q.2)
def evs (G : Gm) (rc : Nat → List Vl → Sto → Res Vl) : List Ex → Env → Sto → Res (List Vl)
  | [], _, S => .ok [] S
  | e :: es, ρ, S => (ev G rc e ρ S).bind fun v S => (evs G rc es ρ S).bind fun vs S => .ok (v :: vs) S
def evo (G : Gm) (rc : Nat → List Vl → Sto → Res Vl) : Option Ex → Env → Sto → Res (Option Int)
  | none, _, S => .ok none S
  | some e, ρ, S => (ev G rc e ρ S).bind fun v S => match v with
    | .d (.int i) => .ok (some i) S
    | _ => .bad
def evc (G : Gm) (rc : Nat → List Vl → Sto → Res Vl) : Option Ex → Env → Sto → Res Bool
  | none, _, S => .ok true S
  | some e, ρ, S => (ev G rc e ρ S).bind tru
end
end Z
end

section

/-! Z2: from the text's trees to the small language; the defs' runs. -/
namespace Z
open PySem L2

/-- what is known where a piece of text stands -/
structure Cs where
  N : List Str
  sc : Scope
  gd : List (Str × Nat)
  gc : List (Str × Nat)
  gb : List Str
  fl : List (Str × Nat)
  mt : List (Str × Nat)
  cells : List Str
  frz : List (Nat × List Nat)
  retc : Bool := false
  wr : Option Scope := none

def findN (N : List Str) (x : Str) : Option Nat := N.findIdx? (· == x)
def visB (sc : Scope) (x : Str) : Bool := match sc.names.lookup x with
  | some .local => true
  | some .cell => true
  | some .free => true
  | _ => false
def locB (sc : Scope) (x : Str) : Bool := match sc.names.lookup x with
  | some .local => true
  | some .cell => true
  | _ => false
def ownB (sc : Option Scope) (x : Str) : Bool := match sc with
  | none => true
  | some sc => locB sc x
def glB (sc : Scope) (x : Str) : Bool := match sc.names.lookup x with
  | some .globalImplicit => true
  | _ => false
def cNm (C : Cs) (x : Str) : Option Nat := match findN C.N x with
  | some i => if visB C.sc x && !(x == ("__debug__" : Str)) && !(x == ("__classdict__" : Str)) then some i else none
  | none => none
def cOp : Operator → Option Op
  | .Add => some .add
  | .Sub => some .sub
  | .Mult => some .mul
  | .FloorDiv => some .fdiv
  | .Mod => some .mod
  | .Pow => some .pow
  | .LShift => some .shl
  | _ => none
def cCm : CmpOp → Option Cm
  | .Eq => some .eq
  | .NotEq => some .ne
  | .Lt => some .lt
  | .LtE => some .le
  | .Gt => some .gt
  | .GtE => some .ge
  | .Is => some .is
  | .IsNot => some .isn
  | .In => some .mem
  | .NotIn => some .nmem
def cTy (x : Str) : Option Nat :=
  if x == ("int" : Str) then some 0 else if x == ("str" : Str) then some 1 else if x == ("list" : Str) then some 2 else if x == ("tuple" : Str) then some 3 else if x == ("bool" : Str) then some 4 else none
def cBf (x : Str) : Option Bf :=
  if x == ("len" : Str) then some .len else if x == ("abs" : Str) then some .abs else if x == ("int" : Str) then some .int else if x == ("list" : Str) then some .list
  else if x == ("tuple" : Str) then some .tuple else if x == ("sum" : Str) then some .sum else if x == ("min" : Str) then some .min else if x == ("max" : Str) then some .max
  else if x == ("any" : Str) then some .any else if x == ("sorted" : Str) then some .sorted else if x == ("all" : Str) then some .all else none
def cBm0 (x : Str) : Option Bm := if x == ("pop" : Str) then some .pop else none
def cBm1 (x : Str) : Option Bm :=
  if x == ("append" : Str) then some .append else if x == ("extend" : Str) then some .extend else if x == ("join" : Str) then some .join
  else if x == ("count" : Str) then some .count else if x == ("rfind" : Str) then some .rfind else if x == ("startswith" : Str) then some .startswith else if x == ("index" : Str) then some .index else none
/-- a built-in's name that the module leaves alone -/
def bltB (C : Cs) (x : Str) : Bool := glB C.sc x && C.gb.contains x && !(x == ("__debug__" : Str)) && !(x == ("__name__" : Str))
def seqO {α : Type} : List (Option α) → Option (List α)
  | [] => some []
  | o :: os => match o, seqO os with
    | some a, some as => some (a :: as)
    | _, _ => none
def foldB (f : Ex → Ex → Ex) : List Ex → Option Ex
  | [] => none
  | [e] => some e
  | e :: es => (foldB f es).map (f e)
def isTyName (C : Cs) : Expr → Option Nat
  | .Name t _ => if bltB C t then cTy t else none
  | _ => none
def notStar : Expr → Bool
  | .Starred _ _ => false
  | _ => true
mutual
/-- a target of names -/
def cTg (C : Cs) : Nat → Expr → Option Tg
  | 0, _ => none
  | n + 1, .Name x _ => match findN C.N x with
    | some i => if locB C.sc x && ownB C.wr x then some (.var i) else none
    | none => none
  | n + 1, .Tuple es _ _ => if es.all notStar then (cTgs C n es).map .tup else none
  | _, _ => none
def cTgs (C : Cs) : Nat → List Expr → Option (List Tg)
  | _, [] => some []
  | 0, _ => none
  | n + 1, e :: es => match cTg C n e, cTgs C n es with
    | some t, some ts => some (t :: ts)
    | _, _ => none
end
/-- the names of a target with their slots -/
def tgNames (C : Cs) : Nat → Expr → List (Str × Nat)
  | 0, _ => []
  | n + 1, .Name x _ => match findN C.N x with
    | some i => [(x, i)]
    | none => []
  | n + 1, .Tuple es _ _ => es.flatMap (tgNames C n)
  | _, _ => []
def blkB (C : Cs) (scope : Scope) (own : List (Str × Nat)) : Bool := blkC C.N C.sc scope own
/-- what enumerate and zip hand out goes to a tuple of names -/
def tgOk (tg : Expr) (k : Ik) : Bool := match k with
  | .enum => (match tg with | .Tuple _ _ _ => true | _ => false)
  | .zip => (match tg with | .Tuple _ _ _ => true | _ => false)
  | .items => (match tg with | .Tuple _ _ _ => true | _ => false)
  | _ => true
def notSet : Expr → Bool
  | .Set _ _ _ => false
  | _ => true
def noSuper : Expr → Bool
  | .Call (.Name id _) [] [] _ => !(id == ("super" : Str))
  | _ => true
def isSl : Expr → Bool
  | .Slice _ _ _ _ => true
  | _ => false
def optE (f : Expr → Option Ex) : Option Expr → Option (Option Ex)
  | none => some none
  | some e => (f e).map some
def condE (f : Expr → Option Ex) : List Expr → Option (Option Ex)
  | [] => some none
  | [c] => (f c).map some
  | _ => none
/-- the built-ins that are walked -/
def cIk (f : Str) (as : List Ex) : Option Ik := match as with
  | [_] => if f == ("range" : Str) then some .range else if f == ("reversed" : Str) then some .rev else if f == ("enumerate" : Str) then some .enum else none
  | [_, _] => if f == ("range" : Str) then some .range else none
  | _ => none
def cE (C : Cs) : Nat → Bool → Expr → Option Ex
  | 0, _, _ => none
  | n + 1, cell, e => match e with
    | .Constant (.int i) _ _ => some (.con (.int i))
    | .Constant (.bool b) _ _ => some (.con (.bl b))
    | .Constant .none _ _ => some (.con .non)
    | .Constant (.str x) _ _ => some (.con (.str x.cps.toList))
    | .Name x _ => match cNm C x with
      | some i => some (.var i)
      | none => if glB C.sc x && !(x == ("__debug__" : Str)) then (C.gc.lookup x).map .glob else none
    | .BinOp a op b _ => match cOp op, cE C n false a, cE C n false b with
      | some o, some a, some b => some (.op o a b)
      | _, _, _ => none
    | .UnaryOp .USub a _ => (cE C n false a).map .neg
    | .UnaryOp .Not a _ => (cE C n false a).map .not
    | .BoolOp .And es _ => match seqO (es.map (cE C n false)) with
      | some es => foldB .and es
      | none => none
    | .BoolOp .Or es _ => match seqO (es.map (cE C n false)) with
      | some es => foldB .or es
      | none => none
    | .IfExp c a b _ => match cE C n false c, cE C n cell a, cE C n cell b with
      | some c, some a, some b => some (.ite c a b)
      | _, _, _ => none
    | .Compare a [op] [b] _ => if behindInMarks op b then none else match cCm op, cE C n false a, cE C n false b with
      | some o, some a, some b => some (.cmp o a b)
      | _, _, _ => none
    | .Compare a [op, op'] [b, c] _ => if lastMarks [op, op'] [b, c] then none else match cCm op, cCm op', cE C n false a, cE C n false b, cE C n false c with
      | some o, some o', some a, some b, some c => some (.chain o o' a b c)
      | _, _, _, _, _ => none
    | .Tuple es _ _ => if es.all notStar then (seqO (es.map (cE C n false))).map .tup else none
    | .List es _ => if es.all notStar then (seqO (es.map (cE C n false))).map (.lst cell) else none
    | .Subscript a (.Slice lo hi none _) _ =>
      match cE C n false a, optE (cE C n false) lo, optE (cE C n false) hi with
      | some a, some lo, some hi => some (.sl a lo hi)
      | _, _, _ => none
    | .Subscript a b _ => if isSl b then none else match cE C n false a, cE C n false b with
      | some a, some b => some (.ix a b)
      | _, _ => none
    | .Call (.Name f _) args [] _ =>
      if bltB C f && f == ("isinstance" : Str) then
        match args with
        | [x, .Tuple ts _ _] => if !notStar x then none else match cE C n false x, seqO (ts.map (isTyName C)) with
          | some x, some ts => if ts.length ≤ 100 then some (.bf (.isinst ts) false [x]) else none
          | _, _ => none
        | [x, t] => if !notStar x then none else match cE C n false x, isTyName C t with
          | some x, some t => some (.bf (.isinst [t]) false [x])
          | _, _ => none
        | _ => none
      else if args.all notStar then
        match seqO (args.map (cE C n false)) with
        | none => none
        | some as =>
          if glB C.sc f && !(f == ("__debug__" : Str)) then
            match C.gd.lookup f with
            | some k => some (.call k as)
            | none => if bltB C f && !as.isEmpty then (cBf f).map fun b => .bf b cell as else none
          else none
      else none
    | .Call (.Attribute o m apos) args [] cpos =>
      if args.all notStar && noSuper o then
        match cE C n false o, seqO (args.map (cE C n false)) with
        | some o, some as => if apos.endLine == cpos.line then (match as with | [] => cBm0 m | [_] => cBm1 m | _ => none).map fun b => .bm b o as else none
        | _, _ => none
      else none
    | .ListComp elt [⟨tg, iter, ifs, asy⟩] scope _ =>
      let own := tgNames C n tg
      let C' : Cs := { C with sc := relS scope C.sc, wr := some scope }
      if blkB C scope own && notSet iter && decide (asy = 0) then
        match cIt C n iter, cTg C' n tg, cE C' n cell elt, condE (cE C' n false) ifs with
        | some (k, its), some t, some e, some c => if t.slots.all (fun i => (own.map (·.2)).contains i) && tgOk tg k then some (.lc cell e t (own.map (·.2)) k its c) else none
        | _, _, _, _ => none
      else none
    | _ => none
where
  /-- what a for walks -/
  cIt (C : Cs) (n : Nat) (e : Expr) : Option (Ik × List Ex) :=
    match n with
    | 0 => none
    | n + 1 => match e with
    | .Call (.Name f _) args [] _ =>
      if bltB C f && args.all notStar then
        match seqO (args.map (cE C n false)) with
        | none => none
        | some as =>
          match cIk f as with
          | some k => some (k, as)
          | none => (cE C n false e).map fun e => (.seq, [e])
      else (cE C n false e).map fun e => (.seq, [e])
    | _ => (cE C n false e).map fun e => (.seq, [e])
end Z
end

section

/-! Z3: statements, defs, runs. -/
namespace Z
open PySem L2

/-- a statement's end -/
inductive RS where
  | nx (ρ : Env) (S : Sto) | rt (v : Vl) (S : Sto) | bk (ρ : Env) (S : Sto) | ct (ρ : Env) (S : Sto) | exc (e : Exn) (S : Sto) | bad
  deriving Inhabited, Repr
def Res.thn {α : Type} (r : Res α) (f : α → Sto → RS) : RS :=
  match r with
  | .ok a S => f a S
  | .exc e S => .exc e S
  | .bad => .bad
def RS.seq (r : RS) (f : Env → Sto → RS) : RS :=
  match r with
  | .nx ρ S => f ρ S
  | r => r
/-- the turns of a while -/
def whl (c : Env → Sto → Res Bool) (b : Env → Sto → RS) : Nat → Env → Sto → RS
  | 0, _, _ => .bad
  | n + 1, ρ, S => (c ρ S).thn fun k S => if k then (match b ρ S with
      | .nx ρ S => whl c b n ρ S
      | .ct ρ S => whl c b n ρ S
      | .bk ρ S => .nx ρ S
      | r => r) else .nx ρ S
/-- the turns of a for -/
def fors (b : Env → Sto → RS) (t : Tg) : List Vl → Env → Sto → RS
  | [], ρ, S => .nx ρ S
  | v :: vs, ρ, S => match bindT t v ρ with
    | none => .bad
    | some ρ => match b ρ S with
      | .nx ρ S => fors b t vs ρ S
      | .ct ρ S => fors b t vs ρ S
      | .bk ρ S => .nx ρ S
      | r => r
def RS.mapS (f : Sto → Sto) : RS → RS
  | .nx ρ S => .nx ρ (f S)
  | .rt v S => .rt v (f S)
  | .bk ρ S => .bk ρ (f S)
  | .ct ρ S => .ct ρ (f S)
  | .exc e S => .exc e (f S)
  | .bad => .bad
/-- a cell's list as plain data; the cell is shut -/
def freeze (v : Vl) (S : Sto) : Option (D × Sto) :=
  match v with
  | .d x => some (x, S)
  | .p n => match S[n]? with
    | some (.lst xs) => match pures xs with
      | some ds => some (.lst ds, S.set n .dead)
      | none => none
    | _ => none
def frz : List Nat → Env → Sto → Option (Env × Sto)
  | [], ρ, S => some (ρ, S)
  | i :: is, ρ, S => match (ρ[i]?).bind id with
    | none => frz is ρ S
    | some v => match freeze v S with
      | some (d, S) => frz is (ρ.set i (some (.d d))) S
      | none => none
def setItem (o i v : Vl) (S : Sto) : Option Sto :=
  match o, i with
  | .p n, .d k => match S[n]? with
    | some (.lst xs) => match k with
      | .int i => (ixN xs.length i).map fun j => S.set n (.lst (xs.set j v))
      | _ => none
    | some (.dct kvs) => if isData 8 k && decide (kvs.length < most) then some (S.set n (.dct (kvPut kvs k v))) else none
    | _ => none
  | _, _ => none
def setField (o v : Vl) (f : Nat) (S : Sto) : Option Sto :=
  match o with
  | .p n => match S[n]? with
    | some (.ins c fs) => if decide (fs.length < 1000) then some (S.set n (.ins c (kwPut fs f v))) else none
    | _ => none
  | _ => none

/-- x op= y: ints, texts -/
def augop (o : Op) (x y : Vl) (S : Sto) : Res Vl :=
  match o with
  | .add => match x with
    | .d (.int i) => match y with
      | .d (.int j) => .ok (.d (.int (i + j))) S
      | _ => .bad
    | .d (.str a) => match y with
      | .d (.str b) => if decide (a.length + b.length ≤ most) then .ok (.d (.str (a ++ b))) S else .bad
      | _ => .bad
    | _ => .bad
  | .sub => opI (fun _ _ => true) (fun i j => i - j) x y S
  | .mul => opI cMul (fun i j => i * j) x y S
  | .fdiv => opI (fun _ j => decide (0 < j) && decide (j < 1073741824)) (fun i j => i / j) x y S
  | .mod => opI (fun _ j => decide (0 < j)) (fun i j => i % j) x y S
  | .pow => .bad
  | .shl => opI cPow (fun i j => i * 2 ^ j.toNat) x y S
mutual
def ex (G : Gm) (rc : Nat → List Vl → Sto → Res Vl) : St → Env → Sto → RS
  | .asg t e, ρ, S => (ev G rc e ρ S).thn fun v S => match bindT t v ρ with
    | some ρ => .nx ρ S
    | none => .bad
  | .sub o i e, ρ, S => (ev G rc e ρ S).thn fun v S => (ev G rc o ρ S).thn fun x S => (ev G rc i ρ S).thn fun k S => match setItem x k v S with
    | some S => .nx ρ S
    | none => .bad
  | .fld o f e, ρ, S => (ev G rc e ρ S).thn fun v S => (ev G rc o ρ S).thn fun x S => match setField x v f S with
    | some S => .nx ρ S
    | none => .bad
  | .aug i o e, ρ, S => (pick ((ρ[i]?).bind id) S).thn fun x S => (ev G rc e ρ S).thn fun y S => (augop o x y S).thn fun z S => .nx (ρ.set i (some z)) S
  | .expr e, ρ, S => (ev G rc e ρ S).thn fun _ S => .nx ρ S
  | .ret e, ρ, S => (ev G rc e ρ S).thn fun v S => .rt v S
  | .ifs c a b, ρ, S => (ev G rc c ρ S).thn fun x S => (tru x S).thn fun k S => if k then exs G rc a ρ S else exs G rc b ρ S
  | .whl c b, ρ, S => whl (fun ρ S => (ev G rc c ρ S).bind tru) (exs G rc b) G.fuel ρ S
  | .fors t k its b, ρ, S => ((evs G rc its ρ S).bind (walkF k)).thn fun q S => (fors (exs G rc b) t q.1 ρ (lock S q.2)).mapS fun S => unlock S q.2
  | .brk, ρ, S => .bk ρ S
  | .cnt, ρ, S => .ct ρ S
  | .pass, ρ, S => .nx ρ S
  | .frz is, ρ, S => match frz is ρ S with
    | some (ρ, S) => .nx ρ S
    | none => .bad
def exs (G : Gm) (rc : Nat → List Vl → Sto → Res Vl) : List St → Env → Sto → RS
  | [], ρ, S => .nx ρ S
  | s :: ss, ρ, S => (ex G rc s ρ S).seq fun ρ S => exs G rc ss ρ S
end

/-- a value that holds no cell from n on -/
def Vl.below (n : Nat) : Vl → Bool
  | .d _ => true
  | .p m => decide (m < n)
def Cell.below (n : Nat) : Cell → Bool
  | .dead => true
  | .lst xs => xs.all (Vl.below n)
  | .dct kvs => kvs.all fun p => p.2.below n
  | .ins _ fs => fs.all fun p => p.2.below n
/-- behind a call: the answer as data, the cells that the call made gone -/
def leave (keep : Bool) (S₀ : Sto) (v : Vl) (S : Sto) : Res Vl :=
  if keep then .ok v S
  else match v with
    | .p n => if n < S₀.length then close v S else match freeze v S with
      | some (d, S) => close (.d d) S
      | none => .bad
    | v => close v S
where
  close (v : Vl) (S : Sto) : Res Vl :=
    let S' := S.take S₀.length
    if S'.length == S₀.length && (S'.all (Cell.below S₀.length)) && v.below S₀.length then .ok v S' else .bad
def dataO : Vl → Bool
  | .d _ => true
  | .p _ => false
/-- behind the call of a def that sees no cell of its caller -/
def goOut (S : Sto) (v : Vl) (S' : Sto) : Res Vl := match freeze v S' with
  | some (d, _) => .ok (.d d) S
  | none => .bad
/-- a def's run, by the depth of its calls -/
def run (G : Gm) : Nat → Nat → List Vl → Sto → Res Vl
  | 0, _, _, _ => .bad
  | k + 1, f, as, S => match G.defs f with
    | none => .bad
    | some d => if as.length == d.params then
        if d.alone then
          if as.all dataO then
            match exs G (run G k) d.body (as.map some ++ List.replicate (d.slots - d.params) none) [] with
            | .nx _ _ => .ok (.d .non) S
            | .rt v S' => goOut S v S'
            | .exc e _ => .exc e S
            | _ => .bad
          else .bad
        else
        match exs G (run G k) d.body (as.map some ++ List.replicate (d.slots - d.params) none) S with
        | .nx _ S' => leave d.keep S (.d .non) S'
        | .rt v S' => leave d.keep S v S'
        | .exc e S' => .exc e S'
        | _ => .bad
      else .bad

/-! ### from the text -/
def frzAt (C : Cs) (l : Nat) : List St := match C.frz.lookup l with
  | some is => [.frz is]
  | none => []
def isTup : Expr → Bool
  | .Tuple _ _ _ => true
  | .List _ _ => true
  | _ => false
def isLc : Expr → Bool
  | .ListComp _ _ _ _ => true
  | .SetComp _ _ _ _ => true
  | .DictComp _ _ _ _ _ => true
  | _ => false
/-- x = [..]: the two forms that the model has -/
def lcOk (C : Cs) (x : Str) (px pos : Pos) : Expr → Bool
  | .ListComp elt gs scope p => match C.sc.names.lookup x with
    | some .local => (px.line == p.line) && (match C.sc.kind with | .function => true | _ => false) && !(scope.names.any fun (n, k) => n == x && (k == .local || k == .cell))
    | _ => true
  | e => !isLc e
mutual
def cS (C : Cs) : Nat → Stmt → Option (List St)
  | 0, _ => none
  | n + 1, s => match s with
    | .Pass _ => some [.pass]
    | .Break _ => some [.brk]
    | .Continue _ => some [.cnt]
    | .Return none pos => some (frzAt C pos.line ++ [.ret (.con .non)])
    | .Return (some e) pos => (cE C n C.retc e).map fun e => frzAt C pos.line ++ [.ret e]
    | .Expr e pos => if isLc e then none else (cE C n false e).map fun e => frzAt C pos.line ++ [.expr e]
    | .Assign [.Name x px] e pos => match findN C.N x with
      | some i => if locB C.sc x && ownB C.wr x && lcOk C x px pos e then (cE C n (C.cells.contains x) e).map fun e => frzAt C pos.line ++ [.asg (.var i) e] else none
      | none => none
    | .Assign [.Tuple ts k p] e pos => if isTup e || isLc e then none else match cTg C n (.Tuple ts k p), cE C n false e with
        | some t, some e => some (frzAt C pos.line ++ [.asg t e])
        | _, _ => none
    | .Assign [.Subscript o i _] e pos => if isLc e || isSl i then none else match cE C n false o, cE C n false i, cE C n false e with
      | some o, some i, some e => some (frzAt C pos.line ++ [.sub o i e])
      | _, _, _ => none
    | .AugAssign (.Name x _) op e pos => match findN C.N x, cOp op, cE C n false e with
      | some i, some o, some e => if locB C.sc x && ownB C.wr x then some (frzAt C pos.line ++ [.aug i o e]) else none
      | _, _, _ => none
    | .If c a b pos => match cE C n false c, cSs C n a, cSs C n b with
      | some c, some a, some b => some (frzAt C pos.line ++ [.ifs c a b])
      | _, _, _ => none
    | .While c b [] pos => match cE C n false c, cSs C n b with
      | some c, some b => some (frzAt C pos.line ++ [.whl c b])
      | _, _ => none
    | .For t' it b [] pos => match cTg C n t', cE.cIt C n it, cSs C n b with
      | some t, some (k, its), some b => if tgOk t' k && notSet it then some (frzAt C pos.line ++ [.fors t k its b]) else none
      | _, _, _ => none
    | _ => none
def cSs (C : Cs) : Nat → List Stmt → Option (List St)
  | _, [] => some []
  | 0, _ => none
  | n + 1, s :: ss => match cS C n s, cSs C n ss with
    | some a, some b => some (a ++ b)
    | _, _ => none
end
end Z
end

section

/-! Z4: how plain values lie in a heap. -/
namespace Z
open PySem L2

/-- where the text's own things lie -/
structure Wd where
  K : PySem.W.Frag
  fa : Nat → Addr
  ca : Nat → Addr
  nm : Nat → Str

mutual
def Rp (W : Wd) (H : Hp) : D → V → Prop
  | .non, v => v = .non
  | .bl b, v => v = .bl b
  | .int i, v => v = .int i
  | .str s, v => v = .str ⟨s.toArray⟩
  | .fn f, v => v = .ref (W.fa f)
  | .tup ds, v => ∃ a vs, v = .ref a ∧ SqT W.K H a vs ∧ Rps W H ds vs
  | .lst ds, v => ∃ a vs, v = .ref a ∧ H a = some (.lst vs) ∧ Rps W H ds vs
  | .scr ns, v => ∃ a, v = .ref a ∧ SqL W.K H a (ns.map V.int)
  | .dct _ _, _ => False
  | .ins c ns ds, v => ∃ a dx vs, v = .ref a ∧ H a = some (.ins (W.ca c) dx ((ns.map W.nm).zip vs)) ∧ Rps W H ds vs
def Rps (W : Wd) (H : Hp) : List D → List V → Prop
  | [], vs => vs = []
  | d :: ds, vs => ∃ v r, vs = v :: r ∧ Rp W H d v ∧ Rps W H ds r
end

def Sub (F F' : Hp) : Prop := ∀ a o, F a = some o → F' a = some o
theorem Sub.refl (F : Hp) : Sub F F := fun _ _ h => h
theorem Sub.trans {F F' F'' : Hp} (a : Sub F F') (b : Sub F' F'') : Sub F F'' := fun x o h => b x o (a x o h)
theorem Sub.rd {F F' : Hp} (h : Sub F F') {a : Addr} {u : HO} (r : Rd F a u) : Rd F' a u := by
  rcases r with r | ⟨o, r⟩
  · exact .inl (h _ _ r)
  · exact .inr ⟨o, h _ _ r⟩
theorem Sub.sqL {F F' : Hp} (h : Sub F F') {K : PySem.W.Frag} {a : Addr} {xs : List V} (r : SqL K F a xs) : SqL K F' a xs := by
  rcases r with r | r
  · exact .inl (h.rd r)
  · exact .inr r
theorem Sub.sqT {F F' : Hp} (h : Sub F F') {K : PySem.W.Frag} {a : Addr} {xs : List V} (r : SqT K F a xs) : SqT K F' a xs := by
  rcases r with r | r
  · exact .inl (h.rd r)
  · exact .inr r
mutual
theorem Rp.mono {W : Wd} {F F' : Hp} (h : Sub F F') : ∀ {d : D} {v : V}, Rp W F d v → Rp W F' d v
  | .non, _, r => r
  | .bl _, _, r => r
  | .int _, _, r => r
  | .str _, _, r => r
  | .fn _, _, r => r
  | .tup ds, _, r => by
    obtain ⟨a, vs, e, q, t⟩ := r
    exact ⟨a, vs, e, h.sqT q, Rps.mono h t⟩
  | .lst ds, _, r => by
    obtain ⟨a, vs, e, q, t⟩ := r
    exact ⟨a, vs, e, h _ _ q, Rps.mono h t⟩
  | .scr ns, _, r => by
    obtain ⟨a, e, q⟩ := r
    exact ⟨a, e, h.sqL q⟩
  | .dct _ _, _, r => False.elim r
  | .ins c ns ds, _, r => by
    obtain ⟨a, dx, vs, e, q, t⟩ := r
    exact ⟨a, dx, vs, e, h _ _ q, Rps.mono h t⟩
theorem Rps.mono {W : Wd} {F F' : Hp} (h : Sub F F') : ∀ {ds : List D} {vs : List V}, Rps W F ds vs → Rps W F' ds vs
  | [], _, r => r
  | d :: ds, _, r => by
    obtain ⟨v, q, e, r1, r2⟩ := r
    exact ⟨v, q, e, Rp.mono h r1, Rps.mono h r2⟩
end
theorem Rps.length {W : Wd} {F : Hp} : ∀ {ds : List D} {vs : List V}, Rps W F ds vs → ds.length = vs.length
  | [], _, r => by cases (show _ = [] from r); rfl
  | d :: ds, _, r => by
    obtain ⟨v, q, e, r1, r2⟩ := r
    rw [e, List.length_cons, List.length_cons, Rps.length r2]

/-- a value in the heap: data in what is frozen, or the object of a cell -/
def VlR (W : Wd) (α : Nat → Addr) (F : Hp) (N : Nat) : Vl → V → Prop
  | .d x, v => Rp W F x v
  | .p n, v => v = .ref (α n) ∧ n < N
inductive VlRs (W : Wd) (α : Nat → Addr) (F : Hp) (N : Nat) : List Vl → List V → Prop
  | nil : VlRs W α F N [] []
  | cons {x : Vl} {v : V} {xs : List Vl} {vs : List V} : VlR W α F N x v → VlRs W α F N xs vs → VlRs W α F N (x :: xs) (v :: vs)
def CellOk (W : Wd) (α : Nat → Addr) (F : Hp) (N : Nat) (H : Hp) (a : Addr) : Cell → Prop
  | .dead => True
  | .lst xs => ∃ vs, H a = some (.lst vs) ∧ VlRs W α F N xs vs
  | .dct _ => False
  | .ins c fs => ∃ dx vs, H a = some (.ins (W.ca c) dx ((fs.map fun p => W.nm p.1).zip vs)) ∧ VlRs W α F N (fs.map (·.2)) vs
def Live (S : Sto) (n : Nat) : Prop := ∃ c, S[n]? = some c ∧ c ≠ .dead
/-- the state in the heap -/
structure Sr (W : Wd) (α : Nat → Addr) (F : Hp) (S : Sto) (H : Hp) : Prop where
  sub : Sub F H
  sep : ∀ n, Live S n → F (α n) = none
  inj : ∀ m n, Live S m → Live S n → α m = α n → m = n
  cel : ∀ n c, S[n]? = some c → CellOk W α F S.length H (α n) c
/-- what a piece of work leaves -/
structure Ext (α : Nat → Addr) (F : Hp) (S : Sto) (H : Hp) (α' : Nat → Addr) (F' : Hp) (S' : Sto) (H' : Hp) : Prop where
  al : ∀ n, n < S.length → α' n = α n
  len : S.length ≤ S'.length
  fr : Sub F F'
  frame : ∀ a o, H a = some o → (∀ n, Live S n → α n ≠ a) → H' a = some o
  new : ∀ n, S.length ≤ n → n < S'.length → H (α' n) = none
  lv : ∀ n, n < S.length → Live S' n → Live S n
  dom : ∀ a, H' a = none → H a = none
  fz : ∀ a o, F' a = some o → F a = none → H a = none ∨ ∃ n, Live S n ∧ α n = a
theorem Live.lt {S : Sto} {n : Nat} (h : Live S n) : n < S.length := by
  obtain ⟨c, e, _⟩ := h
  exact (List.getElem?_eq_some_iff.mp e).1
theorem Ext.refl {α : Nat → Addr} {F : Hp} {S : Sto} {H : Hp} : Ext α F S H α F S H :=
  ⟨fun _ _ => rfl, Nat.le_refl _, Sub.refl F, fun _ _ h _ => h, fun n h1 h2 => absurd (Nat.lt_of_lt_of_le h2 h1) (Nat.lt_irrefl _), fun _ _ h => h, fun _ h => h, fun _ o h h' => by rw [h'] at h; cases h⟩
theorem Ext.trans {α α1 α2 : Nat → Addr} {F F1 F2 : Hp} {S S1 S2 : Sto} {H H1 H2 : Hp} (x : Ext α F S H α1 F1 S1 H1) (y : Ext α1 F1 S1 H1 α2 F2 S2 H2) : Ext α F S H α2 F2 S2 H2 where
  al := fun n h => (y.al n (Nat.lt_of_lt_of_le h x.len)).trans (x.al n h)
  len := Nat.le_trans x.len y.len
  fr := x.fr.trans y.fr
  frame := fun a o h k => by
    refine y.frame a o (x.frame a o h k) fun n l e => ?_
    by_cases hn : n < S.length
    · exact k n (x.lv n hn l) (by rw [← x.al n hn]; exact e)
    · have := x.new n (Nat.le_of_not_lt hn) l.lt
      rw [e, h] at this
      cases this
  new := fun n h1 h2 => by
    by_cases hn : n < S1.length
    · rw [y.al n hn]; exact x.new n h1 hn
    · exact x.dom _ (y.new n (Nat.le_of_not_lt hn) h2)
  lv := fun n h l => x.lv n h (y.lv n (Nat.lt_of_lt_of_le h x.len) l)
  dom := fun a h => x.dom a (y.dom a h)
  fz := fun a o h h' => by
    cases q : F1 a with
    | some u => exact x.fz a u q h'
    | none =>
      rcases y.fz a o h q with z | ⟨n, l, e⟩
      · exact .inl (x.dom a z)
      · by_cases hn : n < S.length
        · exact .inr ⟨n, x.lv n hn l, by rw [← x.al n hn]; exact e⟩
        · have := x.new n (Nat.le_of_not_lt hn) l.lt
          rw [e] at this
          exact .inl this

section
variable {W : Wd} {α α' : Nat → Addr} {F F' : Hp} {S S' : Sto} {H H' : Hp} {N N' : Nat}
theorem VlR.mono (al : ∀ n, n < N → α' n = α n) (hN : N ≤ N') (fr : Sub F F') : ∀ {x : Vl} {v : V}, VlR W α F N x v → VlR W α' F' N' x v
  | .d _, _, r => Rp.mono fr r
  | .p n, _, r => by
    obtain ⟨e, h⟩ := r
    exact ⟨by rw [al n h]; exact e, Nat.lt_of_lt_of_le h hN⟩
theorem VlRs.mono (al : ∀ n, n < N → α' n = α n) (hN : N ≤ N') (fr : Sub F F') {xs : List Vl} {vs : List V} (r : VlRs W α F N xs vs) : VlRs W α' F' N' xs vs := by
  induction r with
  | nil => exact .nil
  | cons a _ ih => exact .cons (a.mono al hN fr) ih
theorem VlR.ext (x : Ext α F S H α' F' S' H') {v : Vl} {w : V} (r : VlR W α F S.length v w) : VlR W α' F' S'.length v w := r.mono x.al x.len x.fr
theorem VlRs.ext (x : Ext α F S H α' F' S' H') {v : List Vl} {w : List V} (r : VlRs W α F S.length v w) : VlRs W α' F' S'.length v w := r.mono x.al x.len x.fr
theorem VlRs.length {xs : List Vl} {vs : List V} (r : VlRs W α F N xs vs) : xs.length = vs.length := by
  induction r with
  | nil => rfl
  | cons _ _ ih => simp [ih]
theorem VlRs.append {xs ys : List Vl} {vs ws : List V} (r : VlRs W α F N xs vs) (q : VlRs W α F N ys ws) : VlRs W α F N (xs ++ ys) (vs ++ ws) := by
  induction r with
  | nil => exact q
  | cons a _ ih => exact .cons a ih
theorem VlRs.get {xs : List Vl} {vs : List V} (r : VlRs W α F N xs vs) : ∀ {i : Nat} {x : Vl}, xs[i]? = some x → ∃ v, vs[i]? = some v ∧ VlR W α F N x v := by
  induction r with
  | nil => intro i x h; simp at h
  | cons a _ ih =>
    intro i x h
    cases i with
    | zero => simp at h; subst h; exact ⟨_, rfl, a⟩
    | succ i => simpa using ih (by simpa using h)
theorem VlRs.getV {xs : List Vl} {vs : List V} (r : VlRs W α F N xs vs) : ∀ {i : Nat} {v : V}, vs[i]? = some v → ∃ x, xs[i]? = some x ∧ VlR W α F N x v := by
  induction r with
  | nil => intro i x h; simp at h
  | cons a _ ih =>
    intro i x h
    cases i with
    | zero => simp at h; subst h; exact ⟨_, rfl, a⟩
    | succ i => simpa using ih (by simpa using h)
theorem VlRs.set {xs : List Vl} {vs : List V} {x : Vl} {v : V} (r : VlRs W α F N xs vs) (q : VlR W α F N x v) : ∀ (i : Nat), VlRs W α F N (xs.set i x) (vs.set i v) := by
  induction r with
  | nil => intro i; exact .nil
  | cons a t ih =>
    intro i
    cases i with
    | zero => exact .cons q t
    | succ i => exact .cons a (ih i)
theorem VlRs.dropLast {xs : List Vl} {vs : List V} (r : VlRs W α F N xs vs) : VlRs W α F N xs.dropLast vs.dropLast := by
  induction r with
  | nil => exact .nil
  | cons a t ih =>
    cases t with
    | nil => exact .nil
    | cons b t => exact .cons a ih
theorem VlRs.reverse {xs : List Vl} {vs : List V} (r : VlRs W α F N xs vs) : VlRs W α F N xs.reverse vs.reverse := by
  induction r with
  | nil => exact .nil
  | cons a _ ih => rw [List.reverse_cons, List.reverse_cons]; exact ih.append (.cons a .nil)
theorem VlRs.of_pure : ∀ {ds : List D} {vs : List V}, Rps W F ds vs → VlRs W α F N (ds.map .d) vs
  | [], _, r => by cases (show _ = [] from r); exact .nil
  | d :: ds, _, r => by
    obtain ⟨v, q, e, r1, r2⟩ := r
    subst e
    exact .cons r1 (VlRs.of_pure r2)
theorem VlRs.pures {xs : List Vl} {vs : List V} (r : VlRs W α F N xs vs) : ∀ {ds : List D}, pures xs = some ds → Rps W F ds vs := by
  induction r with
  | nil => intro ds e; cases e; exact rfl
  | @cons x v xs vs a _ ih =>
    intro ds e
    unfold Z.pures at e
    cases x with
    | p n => simp at e
    | d x =>
      cases q : Z.pures xs with
      | none => rw [q] at e; simp at e
      | some es =>
        rw [q] at e
        simp at e
        subst e
        exact ⟨v, vs, rfl, a, ih q⟩
theorem Rps.get {xs : List D} : ∀ {vs : List V}, Rps W F xs vs → ∀ {i : Nat} {x : D}, xs[i]? = some x → ∃ v, vs[i]? = some v ∧ Rp W F x v := by
  induction xs with
  | nil => intro vs r i x h; simp at h
  | cons d ds ih =>
    intro vs r i x h
    obtain ⟨v, q, e, r1, r2⟩ := r
    subst e
    cases i with
    | zero => simp at h; subst h; exact ⟨_, rfl, r1⟩
    | succ i => simpa using ih r2 (by simpa using h)
theorem Rps.append : ∀ {xs ys : List D} {vs ws : List V}, Rps W F xs vs → Rps W F ys ws → Rps W F (xs ++ ys) (vs ++ ws)
  | [], _, _, _, r, q => by cases (show _ = [] from r); exact q
  | d :: ds, _, _, _, r, q => by
    obtain ⟨v, t, e, r1, r2⟩ := r
    subst e
    exact ⟨v, _, rfl, r1, Rps.append r2 q⟩
theorem Rps.take : ∀ {xs : List D} {vs : List V} (n : Nat), Rps W F xs vs → Rps W F (xs.take n) (vs.take n)
  | _, _, 0, _ => by rw [List.take_zero, List.take_zero]; rfl
  | [], _, n + 1, r => by cases (show _ = [] from r); rfl
  | d :: ds, _, n + 1, r => by
    obtain ⟨v, t, e, r1, r2⟩ := r
    subst e
    exact ⟨v, _, rfl, r1, Rps.take n r2⟩
theorem Rps.drop : ∀ {xs : List D} {vs : List V} (n : Nat), Rps W F xs vs → Rps W F (xs.drop n) (vs.drop n)
  | _, _, 0, r => r
  | [], _, n + 1, r => by cases (show _ = [] from r); rfl
  | d :: ds, _, n + 1, r => by
    obtain ⟨v, t, e, r1, r2⟩ := r
    subst e
    exact Rps.drop n r2
theorem CellOk.mono (al : ∀ n, n < N → α' n = α n) (hN : N ≤ N') (fr : Sub F F') {a : Addr} : ∀ {c : Cell}, (c ≠ .dead → ∀ o, H a = some o → H' a = some o) → CellOk W α F N H a c → CellOk W α' F' N' H' a c
  | .dead, _, _ => trivial
  | .lst xs, keep, h => by
    obtain ⟨vs, e, r⟩ := h
    exact ⟨vs, keep (fun z => nomatch z) _ e, r.mono al hN fr⟩
  | .dct _, _, h => False.elim h
  | .ins c fs, keep, h => by
    obtain ⟨dx, vs, e, r⟩ := h
    exact ⟨dx, vs, keep (fun z => nomatch z) _ e, r.mono al hN fr⟩
theorem CellOk.there {a : Addr} : ∀ {c : Cell}, CellOk W α F N H a c → c ≠ .dead → ∃ o, H a = some o
  | .dead, _, h => absurd rfl h
  | .lst _, h, _ => by obtain ⟨vs, e, _⟩ := h; exact ⟨_, e⟩
  | .dct _, h, _ => False.elim h
  | .ins _ _, h, _ => by obtain ⟨_, vs, e, _⟩ := h; exact ⟨_, e⟩
theorem Sr.there (s : Sr W α F S H) {n : Nat} (l : Live S n) : ∃ o, H (α n) = some o := by
  obtain ⟨c, e, h⟩ := l
  exact (s.cel n c e).there h

/-! ### the ways in which a state goes on -/
/-- a new frozen object -/
theorem Sr.newF (s : Sr W α F S H) {p : Addr} {o : HO} (hp : H p = none) : Sr W α (upd F p o) S (upd H p o) ∧ Ext α F S H α (upd F p o) S (upd H p o) := by
  have np : ∀ a u, H a = some u → a ≠ p := fun a u h => ne_of_none h hp
  have nf : ∀ a u, F a = some u → a ≠ p := fun a u h => np a u (s.sub a u h)
  have fr : Sub F (upd F p o) := fun a u h => by rw [upd_ne (nf a u h)]; exact h
  refine ⟨⟨fun a u h => ?_, fun n l => ?_, s.inj, fun n c e => ?_⟩, ⟨fun _ _ => rfl, Nat.le_refl _, fr, fun a u h _ => ?_, fun n h1 h2 => absurd (Nat.lt_of_lt_of_le h2 h1) (Nat.lt_irrefl _), fun _ _ h => h, fun a h => ?_, fun a u h h' => ?_⟩⟩
  · by_cases e : a = p
    · subst e; rw [upd_same] at h ⊢; exact h
    · rw [upd_ne e] at h ⊢; exact s.sub a u h
  · obtain ⟨u, h⟩ := s.there l
    rw [upd_ne (np _ u h)]
    exact s.sep n l
  · exact (s.cel n c e).mono (fun _ _ => rfl) (Nat.le_refl _) fr fun _ u h => by rw [upd_ne (np _ u h)]; exact h
  · rw [upd_ne (np a u h)]; exact h
  · by_cases e : a = p
    · subst e; rw [upd_same] at h; cases h
    · rw [upd_ne e] at h; exact h
  · by_cases e : a = p
    · subst e; exact .inl hp
    · rw [upd_ne e, h'] at h; cases h
theorem live_append {S : Sto} {c : Cell} {n : Nat} (h : Live (S ++ [c]) n) (hn : n ≠ S.length) : Live S n := by
  obtain ⟨c', e, hc⟩ := h
  have hl : n < (S ++ [c]).length := (List.getElem?_eq_some_iff.mp e).1
  rw [List.length_append, List.length_singleton] at hl
  rw [List.getElem?_append_left (by omega)] at e
  exact ⟨c', e, hc⟩
def adr (α : Nat → Addr) (n : Nat) (p : Addr) : Nat → Addr := fun m => if m = n then p else α m
theorem adr_same {n : Nat} {p : Addr} : adr α n p n = p := if_pos rfl
theorem adr_ne {n m : Nat} {p : Addr} (h : m ≠ n) : adr α n p m = α m := if_neg h
/-- a new cell -/
theorem Sr.newC (s : Sr W α F S H) {p : Addr} {o : HO} (hp : H p = none) {c : Cell} (hc : CellOk W (adr α S.length p) F (S.length + 1) (upd H p o) p c) :
    Sr W (adr α S.length p) F (S ++ [c]) (upd H p o) ∧ Ext α F S H (adr α S.length p) F (S ++ [c]) (upd H p o) := by
  have np : ∀ a u, H a = some u → a ≠ p := fun a u h => ne_of_none h hp
  have al : ∀ n, n < S.length → adr α S.length p n = α n := fun n h => adr_ne (Nat.ne_of_lt h)
  have len : (S ++ [c]).length = S.length + 1 := by simp
  have ap : ∀ n, Live S n → α n ≠ p := fun n l => by obtain ⟨u, h⟩ := s.there l; exact np _ u h
  refine ⟨⟨fun a u h => ?_, fun n l => ?_, fun m n lm ln e => ?_, fun n c' e => ?_⟩, ⟨al, by rw [len]; exact Nat.le_succ _, Sub.refl F, fun a u h _ => ?_, fun n h1 h2 => ?_, fun n h l => live_append l (Nat.ne_of_lt h), fun a h => ?_, fun a u h h' => by rw [h'] at h; cases h⟩⟩
  · rw [upd_ne (np a u (s.sub a u h))]; exact s.sub a u h
  · by_cases e : n = S.length
    · subst e
      rw [adr_same]
      cases q : F p with
      | none => rfl
      | some u => exact absurd rfl (np p u (s.sub p u q))
    · rw [adr_ne e]; exact s.sep n (live_append l e)
  · by_cases em : m = S.length <;> by_cases en : n = S.length
    · rw [em, en]
    · rw [em, adr_same, adr_ne en] at e
      exact absurd e.symm (ap n (live_append ln en))
    · rw [en, adr_same, adr_ne em] at e
      exact absurd e (ap m (live_append lm em))
    · rw [adr_ne em, adr_ne en] at e
      exact s.inj m n (live_append lm em) (live_append ln en) e
  · rw [len]
    by_cases en : n = S.length
    · subst en
      rw [List.getElem?_append_right (Nat.le_refl _)] at e
      simp at e
      subst e
      rw [adr_same]
      exact hc
    · have hl : n < (S ++ [c]).length := (List.getElem?_eq_some_iff.mp e).1
      rw [len] at hl
      rw [List.getElem?_append_left (by omega)] at e
      rw [adr_ne en]
      exact (s.cel n c' e).mono al (Nat.le_succ _) (Sub.refl F) fun _ u h => by rw [upd_ne (np _ u h)]; exact h
  · rw [upd_ne (np a u h)]; exact h
  · have e : n = S.length := by rw [len] at h2; omega
    subst e
    rw [adr_same]; exact hp
  · by_cases e : a = p
    · subst e; rw [upd_same] at h; cases h
    · rw [upd_ne e] at h; exact h
theorem live_set {S : Sto} {c : Cell} {n m : Nat} (hn : Live S n) (h : Live (S.set n c) m) : Live S m := by
  obtain ⟨c', e, hc⟩ := h
  by_cases q : n = m
  · exact q ▸ hn
  · rw [List.getElem?_set_ne q] at e
    exact ⟨c', e, hc⟩
/-- a cell's object changes -/
theorem Sr.setC (s : Sr W α F S H) {n : Nat} (hl : Live S n) {o : HO} {c : Cell} (hc : CellOk W α F S.length (upd H (α n) o) (α n) c) : Sr W α F (S.set n c) (upd H (α n) o) ∧ Ext α F S H α F (S.set n c) (upd H (α n) o) := by
  have len : (S.set n c).length = S.length := by simp
  refine ⟨⟨fun a u h => ?_, fun m l => s.sep m (live_set hl l), fun m k lm lk => s.inj m k (live_set hl lm) (live_set hl lk), fun m c' e => ?_⟩, ⟨fun _ _ => rfl, by rw [len]; exact Nat.le_refl _, Sub.refl F, fun a u h k => ?_, fun m h1 h2 => absurd (Nat.lt_of_lt_of_le h2 (by rw [len]; exact h1)) (Nat.lt_irrefl _), fun m _ l => live_set hl l, fun a h => ?_, fun a u h h' => by rw [h'] at h; cases h⟩⟩
  · have ne : a ≠ α n := fun e => by rw [e, s.sep n hl] at h; cases h
    rw [upd_ne ne]; exact s.sub a u h
  · rw [len]
    by_cases q : n = m
    · subst q
      rw [List.getElem?_set_self hl.lt] at e
      cases e
      exact hc
    · rw [List.getElem?_set_ne q] at e
      exact (s.cel m c' e).mono (fun _ _ => rfl) (Nat.le_refl _) (Sub.refl F) fun d u h => by
        rw [upd_ne fun z => q (s.inj m n ⟨c', e, d⟩ hl z).symm]; exact h
  · rw [upd_ne fun z => k n hl z.symm]; exact h
  · by_cases e : a = α n
    · subst e; rw [upd_same] at h; cases h
    · rw [upd_ne e] at h; exact h
/-- a cell's list is shut and stands as data -/
theorem Sr.frzC (s : Sr W α F S H) {n : Nat} {xs : List Vl} {ds : List D} (hn : S[n]? = some (.lst xs)) (hp : Z.pures xs = some ds) :
    ∃ F', Sr W α F' (S.set n .dead) H ∧ Ext α F S H α F' (S.set n .dead) H ∧ Rp W F' (.lst ds) (.ref (α n)) := by
  have hl : Live S n := ⟨_, hn, fun z => nomatch z⟩
  obtain ⟨vs, hv, r⟩ := s.cel n _ hn
  have len : (S.set n .dead).length = S.length := by simp
  have fn : F (α n) = none := s.sep n hl
  have fr : Sub F (upd F (α n) (.lst vs)) := fun a u h => by rw [upd_ne (ne_of_none h fn)]; exact h
  have lv : ∀ m, Live (S.set n .dead) m → Live S m ∧ m ≠ n := fun m l => ⟨live_set hl l, fun e => by
    obtain ⟨c, q, hc⟩ := l
    rw [e, List.getElem?_set_self hl.lt] at q
    exact hc (Option.some.inj q).symm⟩
  refine ⟨upd F (α n) (.lst vs), ⟨fun a u h => ?_, fun m l => ?_, fun m k lm lk => s.inj m k (lv m lm).1 (lv k lk).1, fun m c e => ?_⟩, ⟨fun _ _ => rfl, by rw [len]; exact Nat.le_refl _, fr, fun a u h _ => h, fun m h1 h2 => absurd (Nat.lt_of_lt_of_le h2 (by rw [len]; exact h1)) (Nat.lt_irrefl _), fun m _ l => (lv m l).1, fun _ h => h, fun a u h h' => ?_⟩, ?_⟩
  · by_cases e : a = α n
    · subst e; rw [upd_same] at h; cases h; exact hv
    · rw [upd_ne e] at h; exact s.sub a u h
  · obtain ⟨l1, ne⟩ := lv m l
    rw [upd_ne fun z => ne (s.inj m n l1 hl z)]
    exact s.sep m l1
  · rw [len]
    by_cases q : n = m
    · subst q
      rw [List.getElem?_set_self hl.lt] at e
      cases e
      trivial
    · rw [List.getElem?_set_ne q] at e
      exact (s.cel m c e).mono (fun _ _ => rfl) (Nat.le_refl _) fr fun _ _ h => h
  · by_cases e : a = α n
    · exact .inr ⟨n, hl, e.symm⟩
    · rw [upd_ne e, h'] at h; cases h
  · refine ⟨α n, vs, rfl, upd_same, ?_⟩
    exact Rps.mono fr (r.pures hp)
/-- a cell is shut for a while -/
theorem Sr.lock (s : Sr W α F S H) {n : Nat} {c : Cell} (hn : S[n]? = some c) : Sr W α F (S.set n .dead) H := by
  have len : (S.set n .dead).length = S.length := by simp
  have lv : ∀ m, Live (S.set n .dead) m → Live S m := fun m l => by
    obtain ⟨c', q, hc⟩ := l
    by_cases e : n = m
    · subst e
      rw [List.getElem?_set_self (List.getElem?_eq_some_iff.mp hn).1] at q
      exact absurd (Option.some.inj q).symm hc
    · rw [List.getElem?_set_ne e] at q
      exact ⟨c', q, hc⟩
  refine ⟨s.sub, fun m l => s.sep m (lv m l), fun m k lm lk => s.inj m k (lv m lm) (lv k lk), fun m c' e => ?_⟩
  rw [len]
  by_cases q : n = m
  · subst q
    rw [List.getElem?_set_self (List.getElem?_eq_some_iff.mp hn).1] at e
    cases e
    trivial
  · rw [List.getElem?_set_ne q] at e
    exact s.cel m c' e
/-- an object that is ours neither as data nor as a cell -/
structure Oth (α : Nat → Addr) (F : Hp) (S : Sto) (d0 : Addr) : Prop where
  f : F d0 = none
  c : ∀ n, Live S n → α n ≠ d0
theorem Sr.oth0 (s : Sr W α F S H) {d0 : Addr} (h : H d0 = none) : Oth α F S d0 :=
  ⟨(by
    cases q : F d0 with
    | none => rfl
    | some u => rw [s.sub d0 u q] at h; cases h), fun n l e => (by
    obtain ⟨u, q⟩ := s.there l
    rw [e, h] at q; cases q)⟩
theorem Oth.ext (o : Oth α F S d0) (x : Ext α F S H α' F' S' H') {u : HO} (h : H d0 = some u) : Oth α' F' S' d0 ∧ H' d0 = some u := by
  refine ⟨⟨?_, fun n l e => ?_⟩, x.frame d0 u h o.c⟩
  · cases q : F' d0 with
    | none => rfl
    | some v =>
      rcases x.fz d0 v q o.f with z | ⟨n, l, e⟩
      · rw [h] at z; cases z
      · exact absurd e (o.c n l)
  · by_cases hn : n < S.length
    · rw [x.al n hn] at e
      exact o.c n (x.lv n hn l) e
    · have := x.new n (Nat.le_of_not_lt hn) l.lt
      rw [e, h] at this; cases this
theorem Sr.oth (s : Sr W α F S H) {d0 : Addr} {u : HO} (o : Oth α F S d0) : Sr W α F S (upd H d0 u) := by
  refine ⟨fun a v h => ?_, s.sep, s.inj, fun n c e => ?_⟩
  · have ne : a ≠ d0 := fun z => by rw [z, o.f] at h; cases h
    rw [upd_ne ne]; exact s.sub a v h
  · exact (s.cel n c e).mono (fun _ _ => rfl) (Nat.le_refl _) (Sub.refl F) fun d v h => by rw [upd_ne (o.c n ⟨c, e, d⟩)]; exact h
/-- from a state in which d0 was not there -/
theorem Ext.oth (x : Ext α F S H α' F' S' H') {d0 : Addr} {u : HO} (h : H d0 = none) : Ext α F S H α' F' S' (upd H' d0 u) := by
  refine ⟨x.al, x.len, x.fr, fun a o q k => ?_, x.new, x.lv, fun a q => ?_, x.fz⟩
  · rw [upd_ne (ne_of_none q h)]; exact x.frame a o q k
  · by_cases e : a = d0
    · rw [e]; exact h
    · rw [upd_ne e] at q; exact x.dom a q
/-- it becomes data -/
theorem Sr.adoptF (s : Sr W α F S H) {d0 : Addr} {u : HO} (o : Oth α F S d0) (h : H d0 = some u) : Sr W α (upd F d0 u) S H := by
  have fr : Sub F (upd F d0 u) := fun a v q => by rw [upd_ne (ne_of_none q o.f)]; exact q
  refine ⟨fun a v q => ?_, fun n l => ?_, s.inj, fun n c e => (s.cel n c e).mono (fun _ _ => rfl) (Nat.le_refl _) fr fun _ _ h => h⟩
  · by_cases e : a = d0
    · subst e; rw [upd_same] at q; cases q; exact h
    · rw [upd_ne e] at q; exact s.sub a v q
  · rw [upd_ne (o.c n l)]; exact s.sep n l
theorem Ext.adoptF (x : Ext α F S H α' F' S' H') {d0 : Addr} {u : HO} (h : H d0 = none) (o : F' d0 = none) : Ext α F S H α' (upd F' d0 u) S' H' := by
  refine ⟨x.al, x.len, fun a v q => ?_, x.frame, x.new, x.lv, x.dom, fun a v q q' => ?_⟩
  · rw [upd_ne (ne_of_none (x.fr a v q) o)]; exact x.fr a v q
  · by_cases e : a = d0
    · rw [e]; exact .inl h
    · rw [upd_ne e] at q; exact x.fz a v q q'
/-- it becomes a cell -/
theorem Sr.adoptC (s : Sr W α F S H) {d0 : Addr} {u : HO} (o : Oth α F S d0) (h : H d0 = some u) {c : Cell} (hc : CellOk W (adr α S.length d0) F (S.length + 1) H d0 c) : Sr W (adr α S.length d0) F (S ++ [c]) H := by
  have al : ∀ n, n < S.length → adr α S.length d0 n = α n := fun n h => adr_ne (Nat.ne_of_lt h)
  have len : (S ++ [c]).length = S.length + 1 := by simp
  refine ⟨s.sub, fun n l => ?_, fun m n lm ln e => ?_, fun n c' e => ?_⟩
  · by_cases e : n = S.length
    · subst e; rw [adr_same]; exact o.f
    · rw [adr_ne e]; exact s.sep n (live_append l e)
  · by_cases em : m = S.length <;> by_cases en : n = S.length
    · rw [em, en]
    · rw [em, adr_same, adr_ne en] at e
      exact absurd e.symm (o.c n (live_append ln en))
    · rw [en, adr_same, adr_ne em] at e
      exact absurd e (o.c m (live_append lm em))
    · rw [adr_ne em, adr_ne en] at e
      exact s.inj m n (live_append lm em) (live_append ln en) e
  · rw [len]
    by_cases en : n = S.length
    · subst en
      rw [List.getElem?_append_right (Nat.le_refl _)] at e
      simp at e
      subst e
      rw [adr_same]
      exact hc
    · have hl : n < (S ++ [c]).length := (List.getElem?_eq_some_iff.mp e).1
      rw [len] at hl
      rw [List.getElem?_append_left (by omega)] at e
      rw [adr_ne en]
      exact (s.cel n c' e).mono al (Nat.le_succ _) (Sub.refl F) fun _ u h => h
theorem Ext.adoptC (x : Ext α F S H α' F' S' H') {d0 : Addr} (h : H d0 = none) {c : Cell} : Ext α F S H (adr α' S'.length d0) F' (S' ++ [c]) H' := by
  refine ⟨fun n hn => ?_, by rw [List.length_append]; exact Nat.le_trans x.len (Nat.le_add_right _ _), x.fr, x.frame, fun n h1 h2 => ?_, fun n hn l => x.lv n hn (live_append l ?_), x.dom, x.fz⟩
  · rw [adr_ne (Nat.ne_of_lt (Nat.lt_of_lt_of_le hn x.len))]; exact x.al n hn
  · by_cases e : n = S'.length
    · rw [e, adr_same]; exact h
    · rw [adr_ne e]
      exact x.new n h1 (by rw [List.length_append, List.length_singleton] at h2; omega)
  · exact Nat.ne_of_lt (Nat.lt_of_lt_of_le hn x.len)
/-- behind a lock -/
theorem Sr.unlock (s : Sr W α F S H) {n : Nat} {c : Cell} (hn : S[n]? = some c) (x : Ext α F (S.set n .dead) H α' F' S' H') (s' : Sr W α' F' S' H') (hd : c ≠ .dead) : Sr W α' F' (S'.set n c) H' ∧ Ext α F S H α' F' (S'.set n c) H' := by
  have hl : n < S.length := (List.getElem?_eq_some_iff.mp hn).1
  have ln : Live S n := ⟨c, hn, hd⟩
  have len : (S.set n .dead).length = S.length := by simp
  have hl' : n < S'.length := Nat.lt_of_lt_of_le hl (by rw [← len]; exact x.len)
  have nd : ¬ Live (S.set n .dead) n := fun ⟨c', q, h⟩ => by
    rw [List.getElem?_set_self hl] at q
    exact h (Option.some.inj q).symm
  have lk : ∀ m, Live (S.set n .dead) m → Live S m ∧ m ≠ n := fun m l => by
    refine ⟨?_, fun e => nd (e ▸ l)⟩
    obtain ⟨c', q, h⟩ := l
    by_cases e : n = m
    · subst e; rw [List.getElem?_set_self hl] at q; exact absurd (Option.some.inj q).symm h
    · rw [List.getElem?_set_ne e] at q; exact ⟨c', q, h⟩
  have al : α' n = α n := x.al n (by rw [len]; exact hl)
  obtain ⟨u, hu⟩ := s.there ln
  have noL : ∀ m, Live (S.set n .dead) m → α m ≠ α n := fun m l z => (lk m l).2 (s.inj m n (lk m l).1 ln z)
  have hu' : H' (α n) = some u := x.frame _ u hu noL
  have nL' : ∀ m, Live S' m → m ≠ n → α' m ≠ α n := fun m l hm z => by
    by_cases hm' : m < S.length
    · rw [x.al m (by rw [len]; exact hm')] at z
      exact noL m (x.lv m (by rw [len]; exact hm') l) z
    · have := x.new m (by rw [len]; exact Nat.le_of_not_lt hm') l.lt
      rw [z, hu] at this; cases this
  have cases' : ∀ m, Live (S'.set n c) m → m = n ∨ (m ≠ n ∧ Live S' m) := fun m l => by
    by_cases e : n = m
    · exact .inl e.symm
    · obtain ⟨c', q, h⟩ := l
      rw [List.getElem?_set_ne e] at q
      exact .inr ⟨fun z => e z.symm, c', q, h⟩
  refine ⟨⟨s'.sub, fun m l => ?_, fun m k lm lk' e => ?_, fun m c' e => ?_⟩, ⟨fun m h => x.al m (by rw [len]; exact h), by rw [List.length_set, ← len]; exact x.len, x.fr, fun a o h k => x.frame a o h fun m l => k m (lk m l).1, fun m h1 h2 => x.new m (by rw [len]; exact h1) (by rw [List.length_set] at h2; exact h2), fun m h l => ?_, x.dom, fun a o h h' => ?_⟩⟩
  · rcases cases' m l with rfl | ⟨hm, l⟩
    · rw [al]
      cases q : F' (α m) with
      | none => rfl
      | some v =>
        rcases x.fz _ v q (s.sep m ln) with z | ⟨k, lk', e⟩
        · rw [hu] at z; cases z
        · exact absurd e (noL k lk')
    · exact s'.sep m l
  · rcases cases' m lm with z | ⟨hm, lm2⟩ <;> rcases cases' k lk' with z' | ⟨hk, lk2⟩
    · rw [z, z']
    · rw [z, al] at e; exact absurd e.symm (nL' k lk2 hk)
    · rw [z', al] at e; exact absurd e (nL' m lm2 hm)
    · exact s'.inj m k lm2 lk2 e
  · rw [List.length_set]
    by_cases e' : n = m
    · subst e'
      rw [List.getElem?_set_self hl'] at e
      cases e
      rw [al]
      exact (s.cel n c hn).mono (fun m h => x.al m (by rw [len]; exact h)) (by rw [← len]; exact x.len) x.fr fun _ v h => x.frame _ v h noL
    · rw [List.getElem?_set_ne e'] at e
      exact s'.cel m c' e
  · rcases cases' m l with rfl | ⟨hm, l⟩
    · exact ln
    · exact (lk m (x.lv m (by rw [len]; exact h) l)).1
  · rcases x.fz a o h h' with z | ⟨k, lk', e⟩
    · exact .inl z
    · exact .inr ⟨k, (lk k lk').1, e⟩
end
end Z
end

section
set_option maxHeartbeats 1000000
/-! Z5: what a reading promises; expressions. -/
namespace Z
open PySem L2

/-- an exception: its class, its own dict -/
def ExR (W : Wd) (F H : Hp) (e : Exn) (c : Value) (d : Option Addr) : Prop :=
  c = .ref (W.ca e.cls) ∧ match d with
    | none => e.fs = []
    | some a => ∃ vs, H a = some (.xd ((e.fs.map fun p => W.nm p.1).zip vs)) ∧ Rps W F (e.fs.map (·.2)) vs
/-- what is wanted of an answer holds wherever it may lie -/
def Post {τ β : Type} (W : Wd) (E : XK) (Rel : (Nat → Addr) → Hp → Sto → Hp → τ → β → Prop) (α : Nat → Addr) (F : Hp) (S : Sto) (H : Hp) (r : Res τ) (Q : β → Hp → Prop) : Prop :=
  match r with
  | .ok a S' => ∀ w α' F' H', Ext α F S H α' F' S' H' → Sr W α' F' S' H' → Rel α' F' S' H' a w → Q w H'
  | .exc e S' => ∀ c d α' F' H', Ext α F S H α' F' S' H' → Sr W α' F' S' H' → ExR W F' H' e c d → E c d H'
  | .bad => False
def RelE {β : Type} (_ : Nat → Addr) (_ : Hp) (_ : Sto) (_ : Hp) (a b : β) : Prop := a = b
abbrev VlX (W : Wd) : (Nat → Addr) → Hp → Sto → Hp → Vl → V → Prop := fun α F S _ x v => VlR W α F S.length x v
abbrev VlXs (W : Wd) : (Nat → Addr) → Hp → Sto → Hp → List Vl → List V → Prop := fun α F S _ x v => VlRs W α F S.length x v
/-- the names' values -/
structure EnvR (W : Wd) (α : Nat → Addr) (F : Hp) (N : Nat) (ρ : Env) (σ : L2.St) : Prop where
  len : ρ.length = σ.length
  at_ : ∀ (i : Nat) (v : Vl), ρ[i]? = some (some v) → ∃ w, σ[i]? = some (some w) ∧ VlR W α F N v w

section
variable {W : Wd} {E : XK} {α α' : Nat → Addr} {F F' : Hp} {S S' : Sto} {H H' : Hp} {τ τ' β β' : Type}
theorem EnvR.ext (x : Ext α F S H α' F' S' H') {ρ : Env} {σ : L2.St} (r : EnvR W α F S.length ρ σ) : EnvR W α' F' S'.length ρ σ :=
  ⟨r.len, fun i v h => let ⟨w, e, q⟩ := r.at_ i v h; ⟨w, e, q.ext x⟩⟩
theorem EnvR.set {N : Nat} {ρ : Env} {σ : L2.St} (r : EnvR W α F N ρ σ) {v : Vl} {w : V} (q : VlR W α F N v w) (i : Nat) : EnvR W α F N (ρ.set i (some v)) (σ.set i (some w)) := by
  refine ⟨by simp [r.len], fun j u h => ?_⟩
  by_cases e : i = j
  · subst e
    have hl : i < ρ.length := by
      by_cases hl : i < ρ.length
      · exact hl
      · rw [List.getElem?_eq_none (by simpa using hl)] at h; cases h
    rw [List.getElem?_set_self hl] at h
    cases h
    exact ⟨w, by rw [List.getElem?_set_self (by rw [← r.len]; exact hl)], q⟩
  · rw [List.getElem?_set_ne e] at h
    rw [List.getElem?_set_ne e]
    exact r.at_ j u h
theorem EnvR.setNone {N : Nat} {ρ : Env} {σ : L2.St} (r : EnvR W α F N ρ σ) (i : Nat) : EnvR W α F N (ρ.set i none) (σ.set i none) := by
  refine ⟨by simp [r.len], fun j u h => ?_⟩
  by_cases e : i = j
  · subst e
    by_cases hl : i < ρ.length
    · rw [List.getElem?_set_self hl] at h; cases h
    · rw [List.getElem?_eq_none (by simpa using hl)] at h; cases h
  · rw [List.getElem?_set_ne e] at h
    rw [List.getElem?_set_ne e]
    exact r.at_ j u h
theorem EnvR.wipe {N : Nat} {ρ : Env} {σ : L2.St} (r : EnvR W α F N ρ σ) : ∀ own : List Nat, EnvR W α F N (Z.wipe ρ own) (L2.wipe σ own)
  | [] => r
  | i :: is => (EnvR.wipe r is).setNone i

variable {Rel : (Nat → Addr) → Hp → Sto → Hp → τ → β → Prop} {Rel' : (Nat → Addr) → Hp → Sto → Hp → τ' → β' → Prop}
theorem Post.imp {r : Res τ} {Q Q' : β → Hp → Prop} (p : Post W E Rel α F S H r Q) (h : ∀ w H', Q w H' → Q' w H') : Post W E Rel α F S H r Q' := by
  cases r with
  | ok a S' => exact fun w α' F' H' x s q => h _ _ (p w α' F' H' x s q)
  | exc e S' => exact p
  | bad => exact p
theorem Post.rebase {r : Res τ} {Q : β → Hp → Prop} (x : Ext α F S H α' F' S' H') (p : Post W E Rel α F S H r Q) : Post W E Rel α' F' S' H' r Q := by
  cases r with
  | ok a S'' => exact fun w α2 F2 H2 y s q => p w α2 F2 H2 (x.trans y) s q
  | exc e S'' => exact fun c d α2 F2 H2 y s q => p c d α2 F2 H2 (x.trans y) s q
  | bad => exact p
/-- the middle of two pieces of work -/
def Mid (W : Wd) (E : XK) (Rel : (Nat → Addr) → Hp → Sto → Hp → τ → β → Prop) (Rel' : (Nat → Addr) → Hp → Sto → Hp → τ' → β' → Prop) (α : Nat → Addr) (F : Hp) (S : Sto) (H : Hp) (g : τ → Sto → Res τ') (Q : β' → Hp → Prop) (w : β) (H1 : Hp) : Prop :=
  ∃ α1 F1 a S1, Ext α F S H α1 F1 S1 H1 ∧ Sr W α1 F1 S1 H1 ∧ Rel α1 F1 S1 H1 a w ∧ Post W E Rel' α1 F1 S1 H1 (g a S1) Q
theorem Post.bind {r : Res τ} {g : τ → Sto → Res τ'} {Q : β' → Hp → Prop} (p : Post W E Rel' α F S H (r.bind g) Q) : Post W E Rel α F S H r (Mid W E Rel Rel' α F S H g Q) := by
  cases r with
  | ok a S' => exact fun w α' F' H' x s q => ⟨α', F', a, S', x, s, q, Post.rebase x p⟩
  | exc e S' => exact p
  | bad => exact p
theorem Post.here {a : τ} {w : β} {Q : β → Hp → Prop} (p : Post W E Rel α F S H (.ok a S) Q) (s : Sr W α F S H) (q : Rel α F S H a w) : Q w H := p w α F H Ext.refl s q
end

/-! ### the judgements -/
def tD (W : Wd) (E : XK) (f : Env → Sto → Res Vl) : TE := fun σ H Q => ∃ α F ρ S, Sr W α F S H ∧ EnvR W α F S.length ρ σ ∧ Post W E (VlX W) α F S H (f ρ S) Q
def tDT (W : Wd) (E : XK) (f : Env → Sto → Res Bool) : TT := fun σ H Q => ∃ α F ρ S, Sr W α F S H ∧ EnvR W α F S.length ρ σ ∧ Post W E RelE α F S H (f ρ S) Q
def tDA (W : Wd) (E : XK) (f : Env → Sto → Res (List Vl)) : TA := fun σ H Q => ∃ α F ρ S, Sr W α F S H ∧ EnvR W α F S.length ρ σ ∧ Post W E (VlXs W) α F S H (f ρ S) Q
def tDO (W : Wd) (E : XK) (f : Env → Sto → Res (Option Int)) : TO := fun σ H Q => ∃ α F ρ S, Sr W α F S H ∧ EnvR W α F S.length ρ σ ∧ Post W E RelE α F S H (f ρ S) Q

theorem peI {X : Cx} {e : Expr} {t t' : TE} (h : PE X e t) (k : ∀ σ H Q, t' σ H Q → t σ H Q) : PE X e t' := ⟨fun pins s σ H Q I q => h.run pins s σ H Q I (k σ H Q q)⟩
theorem ptI {X : Cx} {e : Expr} {t t' : TT} (h : PT X e t) (k : ∀ σ H Q, t' σ H Q → t σ H Q) : PT X e t' := ⟨fun pins s σ H Q I q => h.run pins s σ H Q I (k σ H Q q)⟩
theorem paI {X : Cx} {e : List Expr} {t t' : TA} (h : PA X e t) (k : ∀ σ H Q, t' σ H Q → t σ H Q) : PA X e t' := ⟨fun pos pins s σ H Q I q => h.run pos pins s σ H Q I (k σ H Q q)⟩
theorem poI {X : Cx} {e : Option Expr} {t t' : TO} (h : PO X e t) (k : ∀ σ H Q, t' σ H Q → t σ H Q) : PO X e t' := ⟨fun pins s σ H Q I q => h.run pins s σ H Q I (k σ H Q q)⟩

section
variable {X : Cx} {W : Wd} {E : XK} {a b e : Expr} {pos : Pos} {fa fb : Env → Sto → Res Vl}

/-! ### the end of an operation -/
section
variable {α : Nat → Addr} {F : Hp} {S : Sto} {H : Hp} {Q : VK}
/-- the answer is data that is there -/
theorem fin_d {x : D} {w : V} (p : Post W E (VlX W) α F S H (.ok (.d x) S) Q) (s : Sr W α F S H) (q : Rp W F x w) : Q w H := p.here s q
/-- the answer is a new list or tuple -/
theorem fin_tup {ds : List D} {vs : List V} (p : Post W E (VlX W) α F S H (.ok (.d (.tup ds)) S) Q) (s : Sr W α F S H) (r : Rps W F ds vs) {l : Addr} (hl : H l = none) : Q (.ref l) (upd H l (.tup vs)) := by
  obtain ⟨s', x⟩ := s.newF (o := .tup vs) hl
  exact p _ α _ _ x s' ⟨l, vs, rfl, SqT.of upd_same, Rps.mono x.fr r⟩
theorem fin_lst {ds : List D} {vs : List V} (p : Post W E (VlX W) α F S H (.ok (.d (.lst ds)) S) Q) (s : Sr W α F S H) (r : Rps W F ds vs) {l : Addr} (hl : H l = none) : Q (.ref l) (upd H l (.lst vs)) := by
  obtain ⟨s', x⟩ := s.newF (o := .lst vs) hl
  exact p _ α _ _ x s' ⟨l, vs, rfl, upd_same, Rps.mono x.fr r⟩
theorem fin_cell {xs : List Vl} {vs : List V} (p : Post W E (VlX W) α F S H (.ok (.p S.length) (S ++ [.lst xs])) Q) (s : Sr W α F S H) (r : VlRs W α F S.length xs vs) {l : Addr} (hl : H l = none) : Q (.ref l) (upd H l (.lst vs)) := by
  obtain ⟨s', x⟩ := s.newC (o := .lst vs) (c := .lst xs) hl ⟨vs, upd_same, r.mono (fun n h => adr_ne (Nat.ne_of_lt h)) (Nat.le_succ _) (Sub.refl F)⟩
  exact p _ _ _ _ x s' ⟨by rw [adr_same], by simp⟩
theorem fin_new {cell : Bool} {xs : List Vl} {vs : List V} (p : Post W E (VlX W) α F S H (newList cell xs S) Q) (s : Sr W α F S H) (r : VlRs W α F S.length xs vs) : vs.length ≤ sizeLine ∧ ∀ l, H l = none → Q (.ref l) (upd H l (.lst vs)) := by
  unfold newList at p
  split at p
  · rename_i hz
    refine ⟨by rw [← r.length, sizeLine_eq]; exact of_decide_eq_true hz, fun l hl => ?_⟩
    split at p
    · exact fin_cell p s r hl
    · split at p
      · rename_i ds hd
        exact fin_lst p s (r.pures hd) hl
      · exact p.elim
  · exact p.elim
end

/-! ### names, constants -/
theorem de_var {i : Nat} {x : Str} (hN : X.N[i]? = some x) (hv : Vis X.env.scope x) (hd : (x == ("__debug__" : Str)) = false) (hcd : (x == ("__classdict__" : Str)) = false) :
    PE X (.Name x pos) (tD W E fun ρ S => pick ((ρ[i]?).bind id) S) := by
  refine peI (pe_var hN hv hd hcd) fun σ H Q ⟨α, F, ρ, S, s, er, p⟩ => ?_
  have p : Post W E (VlX W) α F S H (pick ((ρ[i]?).bind id) S) Q := p
  cases q : (ρ[i]?).bind id with
  | none => rw [q] at p; exact p.elim
  | some v =>
    rw [q] at p
    have q' : ρ[i]? = some (some v) := by
      cases z : ρ[i]? with
      | none => rw [z] at q; cases q
      | some o => rw [z] at q; exact congrArg some q
    obtain ⟨w, e, r⟩ := er.at_ i v q'
    exact ⟨w, e, p.here s r⟩
theorem de_con {e : Expr} {v : V} {x : D} (h : PE X e (tC v)) (r : ∀ F, Rp W F x v) : PE X e (tD W E fun _ S => .ok (.d x) S) :=
  peI h fun σ H Q ⟨α, F, ρ, S, s, er, p⟩ => fin_d p s (r F)

/-! ### operators -/
/-- two operands, then what is done with them -/
theorem two {g : Vl → Vl → Sto → Res Vl} {r : R2} {σ : L2.St} {H : Hp} {Q : VK} (h : tD W E (fun ρ S => (fa ρ S).bind fun x S => (fb ρ S).bind fun y S => g x y S) σ H Q)
    (hr : ∀ {α F S H x y v u}, Sr W α F S H → VlR W α F S.length x v → VlR W α F S.length y u → Post W E (VlX W) α F S H (g x y S) Q → r v u H Q) : tOp r (tD W E fa) (tD W E fb) σ H Q := by
  obtain ⟨α, F, ρ, S, s, er, p⟩ := h
  refine ⟨α, F, ρ, S, s, er, p.bind.imp fun v H1 ⟨α1, F1, x, S1, x1, s1, r1, p1⟩ => ?_⟩
  refine ⟨α1, F1, ρ, S1, s1, er.ext x1, p1.bind.imp fun u H2 ⟨α2, F2, y, S2, x2, s2, r2, p2⟩ => ?_⟩
  exact hr s2 (r1.ext x2) r2 p2
/-- one operand -/
theorem one {g : Vl → Sto → Res Vl} {r : V → Hp → VK → Prop} {σ : L2.St} {H : Hp} {Q : VK} (h : tD W E (fun ρ S => (fa ρ S).bind fun x S => g x S) σ H Q)
    (hr : ∀ {α F S H x v}, Sr W α F S H → VlR W α F S.length x v → Post W E (VlX W) α F S H (g x S) Q → r v H Q) : tUn r (tD W E fa) σ H Q := by
  obtain ⟨α, F, ρ, S, s, er, p⟩ := h
  refine ⟨α, F, ρ, S, s, er, p.bind.imp fun v H1 ⟨α1, F1, x, S1, x1, s1, r1, p1⟩ => ?_⟩
  exact hr s1 r1 p1
end
end Z
end

section
set_option maxHeartbeats 1000000
/-! Z6: the operators. -/
namespace Z
open PySem L2

theorem most_eq : most = sizeLine := by rw [sizeLine_eq]; rfl
theorem str_len (s : Tx) : (⟨s.toArray⟩ : Str).length = s.length := by simp [Str.length]
theorem str_app (a b : Tx) : (⟨a.toArray⟩ : Str) ++ ⟨b.toArray⟩ = ⟨(a ++ b).toArray⟩ := by
  apply Str.ext'
  show a.toArray ++ b.toArray = (a ++ b).toArray
  simp
theorem str_eq (a b : Tx) : ((⟨a.toArray⟩ : Str) = ⟨b.toArray⟩) ↔ a = b := by
  constructor
  · intro h
    have := congrArg (fun x : Str => x.cps.toList) h
    simpa using this
  · intro h; rw [h]

section
variable {W : Wd} {α : Nat → Addr} {F : Hp} {S : Sto} {H : Hp} {N : Nat}
theorem VlR.list (s : Sr W α F S H) {x : Vl} {v : V} (r : VlR W α F S.length x v) {xs : List Vl} (h : listOf x S = some xs) : ∃ a vs, v = .ref a ∧ H a = some (.lst vs) ∧ VlRs W α F S.length xs vs := by
  cases x with
  | d d =>
    cases d <;> simp [listOf] at h
    subst h
    obtain ⟨a, vs, e, q, rr⟩ := (show Rp W F _ _ from r)
    exact ⟨a, vs, e, s.sub _ _ q, .of_pure rr⟩
  | p n =>
    obtain ⟨e, hl⟩ := (show v = .ref (α n) ∧ n < S.length from r)
    simp only [listOf] at h
    cases hn : S[n]? with
    | none => rw [hn] at h; cases h
    | some c =>
      rw [hn] at h
      cases c <;> simp at h
      subst h
      obtain ⟨vs, hv, rr⟩ := s.cel n _ hn
      exact ⟨α n, vs, e, hv, rr⟩
theorem ints_rps : ∀ (ns : List Int), Rps W F (ns.map .int) (ns.map V.int)
  | [] => rfl
  | n :: ns => ⟨_, _, rfl, rfl, ints_rps ns⟩
theorem VlR.seq (s : Sr W α F S H) {x : Vl} {v : V} (r : VlR W α F S.length x v) {xs : List Vl} (h : seqOf x S = some xs) : ∃ a vs, v = .ref a ∧ (SqL W.K H a vs ∨ SqT W.K H a vs) ∧ VlRs W α F S.length xs vs := by
  cases x with
  | d d =>
    cases d with
    | lst ds =>
      simp [seqOf] at h
      subst h
      obtain ⟨a, vs, e, q, rr⟩ := (show Rp W F _ _ from r)
      exact ⟨a, vs, e, .inl (.of (s.sub _ _ q)), .of_pure rr⟩
    | tup ds =>
      simp [seqOf] at h
      subst h
      obtain ⟨a, vs, e, q, rr⟩ := (show Rp W F _ _ from r)
      exact ⟨a, vs, e, .inr (s.sub.sqT q), .of_pure rr⟩
    | scr ns =>
      simp [seqOf] at h
      subst h
      obtain ⟨a, e, q⟩ := (show Rp W F _ _ from r)
      have : VlRs W α F S.length ((ns.map D.int).map .d) (ns.map V.int) := .of_pure (ints_rps ns)
      rw [List.map_map] at this
      exact ⟨a, _, e, .inl (s.sub.sqL q), this⟩
    | _ => simp [seqOf] at h
  | p n =>
    obtain ⟨e, hl⟩ := (show v = .ref (α n) ∧ n < S.length from r)
    simp only [seqOf] at h
    cases hn : S[n]? with
    | none => rw [hn] at h; cases h
    | some c =>
      rw [hn] at h
      cases c <;> simp at h
      subst h
      obtain ⟨vs, hv, rr⟩ := s.cel n _ hn
      exact ⟨α n, vs, e, .inl (.of hv), rr⟩
end

section
variable {X : Cx} {W : Wd} {E : XK} {a b e : Expr} {pos : Pos} {fa fb : Env → Sto → Res Vl}
variable {α : Nat → Addr} {F : Hp} {S : Sto} {H : Hp} {Q : VK} {x y : Vl} {v u : V}

/-! ### == on data -/
mutual
theorem dp_of (hK : W.K = X.K) (sub : Sub F H) : ∀ (n : Nat) (d : D) (v : V), isData n d = true → Rp W F d v → Dp X.K H v (toPy d)
  | n, .non, _, _, r => by cases (show _ = V.non from r); exact .non
  | n, .bl b, _, _, r => by cases (show _ = V.bl b from r); exact .bl b
  | n, .int i, _, _, r => by cases (show _ = V.int i from r); exact .int i
  | n, .str s, _, _, r => by cases (show _ = V.str ⟨s.toArray⟩ from r); exact .str _
  | n, .fn _, _, h, _ => by cases n <;> simp [isData] at h
  | n, .scr _, _, h, _ => by cases n <;> simp [isData] at h
  | n, .dct _ _, _, h, _ => by cases n <;> simp [isData] at h
  | n, .ins _ _ _, _, h, _ => by cases n <;> simp [isData] at h
  | 0, .tup _, _, h, _ => by simp [isData] at h
  | 0, .lst _, _, h, _ => by simp [isData] at h
  | n + 1, .tup xs, _, h, r => by
    obtain ⟨a, vs, e, q, rr⟩ := r
    subst e
    exact .tup (by rw [← hK]; exact sub.sqT q) (dps_of hK sub n xs vs (by simpa [isData] using h) rr)
  | n + 1, .lst xs, _, h, r => by
    obtain ⟨a, vs, e, q, rr⟩ := r
    subst e
    exact .lst (.of (sub _ _ q)) (dps_of hK sub n xs vs (by simpa [isData] using h) rr)
theorem dps_of (hK : W.K = X.K) (sub : Sub F H) : ∀ (n : Nat) (ds : List D) (vs : List V), isDatas n ds = true → Rps W F ds vs → DpAll X.K H vs (toPys ds)
  | n, [], _, _, r => by cases (show _ = [] from r); exact .nil
  | n, d :: ds, _, h, r => by
    obtain ⟨v, q, e, r1, r2⟩ := r
    subst e
    have h' : isData n d = true ∧ isDatas n ds = true := by simpa [isDatas] using h
    exact .cons (dp_of hK sub n d v h'.1 r1) (dps_of hK sub n ds q h'.2 r2)
end
mutual
theorem lay_of : ∀ (n : Nat) (d : D), isData n d = true → (toPy d).canLay0 = true ∧ (toPy d).depth ≤ n
  | n, .non, _ => by simp [toPy, PyData.canLay0, PyData.depth]
  | n, .bl b, _ => by simp [toPy, PyData.canLay0, PyData.depth]
  | n, .int i, _ => by simp [toPy, PyData.canLay0, PyData.depth]
  | n, .str s, h => by
    have h' : s.all (fun c => decide (c < 1114112)) = true := by cases n <;> simpa [isData] using h
    simp only [toPy, PyData.canLay0, PyData.depth, PyData.strOk, Nat.zero_le, and_true]
    simpa using h'
  | n, .fn _, h => by cases n <;> simp [isData] at h
  | n, .scr _, h => by cases n <;> simp [isData] at h
  | n, .dct _ _, h => by cases n <;> simp [isData] at h
  | n, .ins _ _ _, h => by cases n <;> simp [isData] at h
  | 0, .tup _, h => by simp [isData] at h
  | 0, .lst _, h => by simp [isData] at h
  | n + 1, .tup xs, h => by
    have := lays_of n xs (by simpa [isData] using h)
    simp only [toPy, PyData.canLay0, PyData.depth]
    exact ⟨this.1, Nat.succ_le_succ this.2⟩
  | n + 1, .lst xs, h => by
    have := lays_of n xs (by simpa [isData] using h)
    simp only [toPy, PyData.canLay0, PyData.depth]
    exact ⟨this.1, Nat.succ_le_succ this.2⟩
theorem lays_of : ∀ (n : Nat) (ds : List D), isDatas n ds = true → PyData.canLayAll0 (toPys ds) = true ∧ PyData.depthAll (toPys ds) ≤ n
  | n, [], _ => by simp [toPys, PyData.canLayAll0, PyData.depthAll]
  | n, d :: ds, h => by
    have h' : isData n d = true ∧ isDatas n ds = true := by simpa [isDatas] using h
    have h1 := lay_of n d h'.1
    have h2 := lays_of n ds h'.2
    simp only [toPys, PyData.canLayAll0, PyData.depthAll, h1.1, h2.1, Bool.and_self, true_and]
    exact Nat.max_le.mpr ⟨h1.2, h2.2⟩
end
theorem shaped_of {d : D} (h : isData 64 d = true) : SeqAt.shaped (toPy d) = true := by
  have := lay_of 64 d h
  simp [SeqAt.shaped, this.1, this.2]
theorem nz_int {d : D} {i : Int} : nz d = .int i ↔ d = .int i ∨ ∃ b, d = .bl b ∧ i = (if b then 1 else 0) := by
  cases d <;> simp [nz, eq_comm]
mutual
theorem eqv_py : ∀ (n m : Nat) (d e : D), isData n d = true → isData m e = true → PyData.eqv (toPy d) (toPy e) = eqv d e
  | n, m, .fn _, _, h, _ => by cases n <;> simp [isData] at h
  | n, m, .scr _, _, h, _ => by cases n <;> simp [isData] at h
  | n, m, .dct _ _, _, h, _ => by cases n <;> simp [isData] at h
  | n, m, .ins _ _ _, _, h, _ => by cases n <;> simp [isData] at h
  | n, m, .non, e, _, h => by cases e <;> (try (cases m <;> simp [isData] at h; done)) <;> simp [toPy, PyData.eqv, eqv, nz, D.beq]
  | n, m, .bl b, e, _, h => by
    cases e <;> (try (cases m <;> simp [isData] at h; done)) <;> simp [toPy, PyData.eqv, eqv, nz, D.beq] 
    all_goals (try (rename_i b'; cases b <;> cases b' <;> simp; done))
    all_goals (try rfl)
  | n, m, .int i, e, _, h => by
    cases e <;> (try (cases m <;> simp [isData] at h; done)) <;> simp [toPy, PyData.eqv, eqv, nz, D.beq] <;> (try rfl)
  | n, m, .str s, e, _, h => by
    cases e <;> (try (cases m <;> simp [isData] at h; done)) <;> simp [toPy, PyData.eqv, eqv, nz, D.beq]
    rw [Bool.eq_iff_iff]
    simp [str_eq]
  | 0, _, .tup _, _, h, _ => by simp [isData] at h
  | 0, _, .lst _, _, h, _ => by simp [isData] at h
  | n + 1, m, .tup xs, e, h, h2 => by
    cases e <;> (try (cases m <;> simp [isData] at h2; done)) <;> simp [toPy, PyData.eqv, eqv, nz, D.beq]
    rename_i ys
    cases m with
    | zero => simp [isData] at h2
    | succ m => exact eqvs_py n m xs ys (by simpa [isData] using h) (by simpa [isData] using h2)
  | n + 1, m, .lst xs, e, h, h2 => by
    cases e <;> (try (cases m <;> simp [isData] at h2; done)) <;> simp [toPy, PyData.eqv, eqv, nz, D.beq]
    rename_i ys
    cases m with
    | zero => simp [isData] at h2
    | succ m => exact eqvs_py n m xs ys (by simpa [isData] using h) (by simpa [isData] using h2)
theorem eqvs_py : ∀ (n m : Nat) (d e : List D), isDatas n d = true → isDatas m e = true → PyData.eqvAll (toPys d) (toPys e) = D.beqs (nzs d) (nzs e)
  | n, m, [], [], _, _ => by simp [toPys, PyData.eqvAll, nzs, D.beqs]
  | n, m, [], _ :: _, _, _ => by simp [toPys, PyData.eqvAll, nzs, D.beqs]
  | n, m, _ :: _, [], _, _ => by simp [toPys, PyData.eqvAll, nzs, D.beqs]
  | n, m, x :: xs, y :: ys, h, h2 => by
    have h' : isData n x = true ∧ isDatas n xs = true := by simpa [isDatas] using h
    have h2' : isData m y = true ∧ isDatas m ys = true := by simpa [isDatas] using h2
    simp only [toPys, PyData.eqvAll, nzs, D.beqs]
    rw [eqv_py n m x y h'.1 h2'.1, eqvs_py n m xs ys h'.2 h2'.2]
    rfl
end
end
end Z
end

section
set_option maxHeartbeats 1000000
/-! Z7: the operators' rules. -/
namespace Z
open PySem L2

section
variable {X : Cx} {W : Wd} {E : XK} {a b e : Expr} {pos : Pos} {fa fb : Env → Sto → Res Vl}
variable {α : Nat → Addr} {F : Hp} {S : Sto} {H : Hp} {Q : VK} {x y : Vl} {v u : V}

theorem VlR.int {i : Int} {N : Nat} (r : VlR W α F N (.d (.int i)) v) : v = .int i := r
theorem VlR.str {z : Tx} {N : Nat} (r : VlR W α F N (.d (.str z)) v) : v = .str ⟨z.toArray⟩ := r

/-- two ints -/
theorem bin_int {C : Int → Int → Prop} {c : Int → Int → Bool} {g : Int → Int → Int} (hc : ∀ i j, c i j = true → C i j)
    (s : Sr W α F S H) (rx : VlR W α F S.length x v) (ry : VlR W α F S.length y u) (p : Post W E (VlX W) α F S H (opI c g x y S) Q) : rI C (fun i j => .int (g i j)) v u H Q := by
  cases x with
  | p n => exact p.elim
  | d x =>
    cases x with
    | int i =>
      cases y with
      | p n => exact p.elim
      | d y =>
        cases y with
        | int j =>
          have p : Post W E (VlX W) α F S H (if c i j then .ok (.d (.int (g i j))) S else .bad) Q := p
          by_cases h : c i j = true
          · rw [if_pos h] at p
            exact ⟨i, j, rx, ry, hc i j h, p.here s rfl⟩
          · rw [if_neg h] at p
            exact p.elim
        | _ => exact p.elim
    | _ => exact p.elim
theorem cMul_iff {i j : Int} : cMul i j = true ↔ CMul i j := by simp [cMul, CMul]
theorem cPow_iff {i j : Int} : cPow i j = true ↔ CPow i j := by simp [cPow, CPow, and_assoc]

theorem bin_cat (s : Sr W α F S H) (rx : VlR W α F S.length x v) (ry : VlR W α F S.length y u) (p : Post W E (VlX W) α F S H (catL x y S) Q) : rCat v u H Q := by
  unfold catL at p
  cases ex : listOf x S with
  | none => rw [ex] at p; exact p.elim
  | some xs =>
    cases ey : listOf y S with
    | none => rw [ex, ey] at p; exact p.elim
    | some ys =>
      rw [ex, ey] at p
      simp only at p
      cases px : pures xs with
      | none => rw [px] at p; exact p.elim
      | some ds =>
        cases py : pures ys with
        | none => rw [px, py] at p; exact p.elim
        | some es =>
          rw [px, py] at p
          simp only at p
          by_cases hz : ds.length + es.length ≤ most
          · rw [if_pos (by simpa using hz)] at p
            obtain ⟨a, vs, rfl, q1, r1⟩ := rx.list s ex
            obtain ⟨b, us, rfl, q2, r2⟩ := ry.list s ey
            have r1 := r1.pures px
            have r2 := r2.pures py
            exact ⟨a, b, vs, us, rfl, rfl, q1, q2, by rw [← r1.length, ← r2.length, ← most_eq]; exact hz, fun l hl => fin_lst p s (r1.append r2) hl⟩
          · rw [if_neg (by simpa using hz)] at p
            exact p.elim
abbrev rAddS : R2 := fun x y H Q => ∃ i j, x = .str i ∧ y = .str j ∧ i.length + j.length ≤ sizeLine ∧ Q (.str (i ++ j)) H
theorem bin_add (hK : W.K = X.K) (s : Sr W α F S H) (rx : VlR W α F S.length x v) (ry : VlR W α F S.length y u) (p : Post W E (VlX W) α F S H (opAdd x y S) Q) :
    ((rI0 fun i j => V.int (i + j)) v u H Q ∨ rAddS v u H Q) ∨ (rCatT X.K v u H Q ∨ rCat v u H Q) := by
  cases x with
  | p n => exact .inr (.inr (bin_cat s rx ry p))
  | d x =>
    cases x with
    | int i =>
      cases y with
      | p n => exact p.elim
      | d y =>
        cases y with
        | int j => exact .inl (.inl ⟨i, j, rx, ry, p.here s rfl⟩)
        | _ => exact p.elim
    | str i =>
      cases y with
      | p n => exact p.elim
      | d y =>
        cases y with
        | str j =>
          have p : Post W E (VlX W) α F S H (if decide (i.length + j.length ≤ most) then .ok (.d (.str (i ++ j))) S else .bad) Q := p
          by_cases hz : i.length + j.length ≤ most
          · rw [if_pos (by simpa using hz)] at p
            refine .inl (.inr ⟨_, _, rx, ry, by rw [str_len, str_len, ← most_eq]; exact hz, ?_⟩)
            rw [str_app]
            exact p.here s rfl
          · rw [if_neg (by simpa using hz)] at p
            exact p.elim
        | _ => exact p.elim
    | tup i =>
      cases y with
      | p n => exact p.elim
      | d y =>
        cases y with
        | tup j =>
          have p : Post W E (VlX W) α F S H (if !i.isEmpty && decide (i.length + j.length ≤ most) then .ok (.d (.tup (i ++ j))) S else .bad) Q := p
          by_cases hz : (!i.isEmpty && decide (i.length + j.length ≤ most)) = true
          · rw [if_pos hz] at p
            rw [Bool.and_eq_true] at hz
            have hz2 : i.length + j.length ≤ most := of_decide_eq_true hz.2
            obtain ⟨a, vs, rfl, q1, r1⟩ := (show Rp W F (.tup i) v from rx)
            obtain ⟨b, us, rfl, q2, r2⟩ := (show Rp W F (.tup j) u from ry)
            refine .inr (.inl ⟨a, b, vs, us, rfl, rfl, by rw [← hK]; exact s.sub.sqT q1, by rw [← hK]; exact s.sub.sqT q2, ?_, by rw [← r1.length, ← r2.length, ← most_eq]; exact hz2, fun e => ?_, fun _ l hl => ?_⟩)
            · intro e
              subst e
              have := r1.length
              cases i with
              | nil => simp at hz
              | cons _ _ => simp at this
            · subst e
              have := r2.length
              cases j with
              | nil => rw [List.append_nil] at p; exact p.here s ⟨a, vs, rfl, q1, r1⟩
              | cons _ _ => simp at this
            · exact fin_tup p s (r1.append r2) hl
          · rw [if_neg hz] at p
            exact p.elim
        | _ => exact p.elim
    | _ => exact .inr (.inr (bin_cat s rx ry p))
theorem Rps.flat {ds : List D} {vs : List V} (r : Rps W F ds vs) : ∀ k : Nat, Rps W F (List.replicate k ds).flatten (List.replicate k vs).flatten
  | 0 => rfl
  | k + 1 => by
    rw [List.replicate_succ, List.replicate_succ, List.flatten_cons, List.flatten_cons]
    exact r.append (Rps.flat r k)
theorem bin_mul (s : Sr W α F S H) (rx : VlR W α F S.length x v) (ry : VlR W α F S.length y u) (p : Post W E (VlX W) α F S H (opMul x y S) Q) :
    rI CMul (fun i j => .int (i * j)) v u H Q ∨ rRep v u H Q := by
  have rep : ∀ {x : Vl} {j : Int}, VlR W α F S.length x v → u = .int j → Post W E (VlX W) α F S H (repL x j S) Q → rRep v u H Q := fun {x j} rx ry p => by
    unfold repL at p
    cases ex : listOf x S with
    | none => rw [ex] at p; exact p.elim
    | some xs =>
      rw [ex] at p
      simp only at p
      cases px : pures xs with
      | none => rw [px] at p; exact p.elim
      | some ds =>
        rw [px] at p
        simp only at p
        by_cases hz : (decide (-(2 ^ 63) ≤ j) && decide (j < 2 ^ 63) && decide (ds.length * j.toNat ≤ most)) = true
        · rw [if_pos hz] at p
          simp only [Bool.and_eq_true, decide_eq_true_eq] at hz
          obtain ⟨a, vs, rfl, q1, r1⟩ := rx.list s ex
          have r1 := r1.pures px
          exact ⟨a, j, vs, rfl, ry, q1, hz.1.1, hz.1.2, by rw [← r1.length, ← most_eq]; exact hz.2, fun l hl => fin_lst p s (r1.flat j.toNat) hl⟩
        · rw [if_neg hz] at p
          exact p.elim
  cases y with
  | p n => exact p.elim
  | d y =>
    cases y with
    | int j =>
      cases x with
      | p n => exact .inr (rep rx ry p)
      | d x =>
        cases x with
        | int i =>
          have p : Post W E (VlX W) α F S H (if cMul i j then .ok (.d (.int (i * j))) S else .bad) Q := p
          by_cases h : cMul i j = true
          · rw [if_pos h] at p
            exact .inl ⟨i, j, rx, ry, cMul_iff.mp h, p.here s rfl⟩
          · rw [if_neg h] at p
            exact p.elim
        | _ => exact .inr (rep rx ry p)
    | _ => exact p.elim
theorem OpR.imp {f : Value → Value → Sem Value} {r r' : R2} (h : OpR X f r) (k : ∀ x y H Q, r' x y H Q → r x y H Q) : OpR X f r' := fun pins s σ H x y v u Q I rx ry q => h pins s σ H x y v u Q I rx ry (k _ _ _ _ q)

theorem de_op (hK : W.K = X.K) {op : Operator} {o : Op} (ho : cOp op = some o) (ha : PE X a (tD W E fa)) (hb : PE X b (tD W E fb)) :
    PE X (.BinOp a op b pos) (tD W E fun ρ S => (fa ρ S).bind fun x S => (fb ρ S).bind fun y S => binop o x y S) := by
  cases op <;> simp [cOp] at ho <;> subst ho
  · exact peI (pe_op ((op_add.or op_add_str).or (op_catT.or op_cat)) ha hb) fun σ H Q h => two h fun s rx ry p => bin_add hK s rx ry p
  · exact peI (pe_op op_sub ha hb) fun σ H Q h => two h fun s rx ry p => by
      obtain ⟨i, j, e1, e2, _, q⟩ := bin_int (C := fun _ _ => True) (fun _ _ _ => trivial) s rx ry p
      exact ⟨i, j, e1, e2, q⟩
  · exact peI (pe_op (op_mul.or op_rep) ha hb) fun σ H Q h => two h fun s rx ry p => bin_mul s rx ry p
  · exact peI (pe_op op_mod ha hb) fun σ H Q h => two h fun s rx ry p => bin_int (fun _ _ h => of_decide_eq_true h) s rx ry p
  · exact peI (pe_op op_pow ha hb) fun σ H Q h => two h fun s rx ry p => bin_int (fun _ _ h => cPow_iff.mp h) s rx ry p
  · exact peI (pe_op op_shl ha hb) fun σ H Q h => two h fun s rx ry p => bin_int (fun _ _ h => cPow_iff.mp h) s rx ry p
  · exact peI (pe_op op_fdiv ha hb) fun σ H Q h => two h fun s rx ry p => bin_int (fun i j h => by
      rw [Bool.and_eq_true] at h
      exact ⟨of_decide_eq_true h.1, of_decide_eq_true h.2⟩) s rx ry p
theorem de_neg (ha : PE X a (tD W E fa)) : PE X (.UnaryOp .USub a pos) (tD W E fun ρ S => (fa ρ S).bind fun x S => match x with
    | .d (.int i) => .ok (.d (.int (-i))) S
    | _ => .bad) :=
  peI (pe_un un_neg ha) fun σ H Q h => one (g := fun x S => match x with
    | .d (.int i) => .ok (.d (.int (-i))) S
    | _ => .bad) h fun {α F S H x v} s rx p => by
    cases x with
    | p n => exact p.elim
    | d x =>
      cases x with
      | int i => exact ⟨i, rx, p.here s rfl⟩
      | _ => exact p.elim
end
end Z
end

section
set_option maxHeartbeats 1000000
/-! Z8: comparisons. -/
namespace Z
open PySem L2

section
variable {X : Cx} {W : Wd} {E : XK} {a b e : Expr} {pos : Pos} {fa fb : Env → Sto → Res Vl}
variable {α : Nat → Addr} {F : Hp} {S : Sto} {H : Hp} {Q : VK} {x y : Vl} {v u : V}

theorem VlR.data (s : Sr W α F S H) (r : VlR W α F S.length x v) {d : D} (h : dataOf x S = some d) : Rp W H d v := by
  cases x with
  | d d' =>
    cases h
    exact Rp.mono s.sub r
  | p n =>
    obtain ⟨e, hl⟩ := (show v = .ref (α n) ∧ n < S.length from r)
    simp only [dataOf] at h
    cases hn : S[n]? with
    | none => rw [hn] at h; cases h
    | some c =>
      rw [hn] at h
      cases c <;> simp at h
      rename_i xs
      obtain ⟨ds, hd, rfl⟩ := h
      obtain ⟨vs, hv, rr⟩ := s.cel n _ hn
      exact ⟨α n, vs, e, hv, Rps.mono s.sub (rr.pures hd)⟩
theorem bl_eq {i j : Bool} : decide (V.bl i = V.bl j) = (i == j) := dec_bl
theorem flat_eq {a b : D} (ha : isFlat a = true) (hb : isFlat b = true) (ra : Rp W F a v) (rb : Rp W F b u) :
    (scal v u = true ∧ eqv a b = decide (v = u)) ∨ (isData 64 a = true ∧ isData 64 b = true) := by
  cases a <;> simp [isFlat] at ha <;> cases b <;> simp [isFlat] at hb <;>
    simp only [Rp] at ra rb <;> subst ra <;> subst rb
  all_goals first
    | exact .inr ⟨rfl, rfl⟩
    | (refine .inl ⟨rfl, ?_⟩; simp [eqv, nz, D.beq, str_eq]; done)
    | skip
theorem cmp_eqv (hK : W.K = X.K) (neg : Bool) (s : Sr W α F S H) (rx : VlR W α F S.length x v) (ry : VlR W α F S.length y u) (p : Post W E (VlX W) α F S H (cEqv neg x y S) Q) :
    (∃ b, scal v u = true ∧ decide (v = u) = b ∧ Q (.bl (if neg then !b else b)) H) ∨ ∃ d e, Dp X.K H v d ∧ Dp X.K H u e ∧ SeqAt.shaped d = true ∧ SeqAt.shaped e = true ∧ Q (.bl (if neg then !PyData.eqv d e else PyData.eqv d e)) H := by
  unfold cEqv at p
  cases ex : dataOf x S with
  | none => rw [ex] at p; exact p.elim
  | some c =>
    cases ey : dataOf y S with
    | none => rw [ex, ey] at p; exact p.elim
    | some d =>
      rw [ex, ey] at p
      simp only at p
      have r1 := rx.data s ex
      have r2 := ry.data s ey
      by_cases hz : eqOk c d = true
      · rw [if_pos hz] at p
        have q := p.here s rfl
        have deep : isData 64 c = true → isData 64 d = true → ∃ d e, Dp X.K H v d ∧ Dp X.K H u e ∧ SeqAt.shaped d = true ∧ SeqAt.shaped e = true ∧ Q (.bl (if neg then !PyData.eqv d e else PyData.eqv d e)) H := fun h1 h2 => by
          refine ⟨toPy c, toPy d, dp_of hK (Sub.refl H) 64 c v h1 r1, dp_of hK (Sub.refl H) 64 d u h2 r2, shaped_of h1, shaped_of h2, ?_⟩
          rw [eqv_py 64 64 c d h1 h2]
          exact q
        unfold eqOk at hz
        rw [Bool.or_eq_true, Bool.and_eq_true, Bool.and_eq_true] at hz
        rcases hz with ⟨h1, h2⟩ | ⟨h1, h2⟩
        · rcases flat_eq h1 h2 r1 r2 with ⟨h3, h4⟩ | ⟨h3, h4⟩
          · exact .inl ⟨_, h3, h4.symm, q⟩
          · exact .inr (deep h3 h4)
        · exact .inr (deep h1 h2)
      · rw [if_neg hz] at p
        exact p.elim
theorem str_lt (a b : Tx) : decide ((⟨a.toArray⟩ : Str).cps.toList < (⟨b.toArray⟩ : Str).cps.toList) = ltTx a b := rfl
/-- an order of data that are alike -/
def rOrdD (K : PySem.W.Frag) (f : PyData → PyData → Bool) : R2 := fun x y H Q => ∃ d e, Dp K H x d ∧ Dp K H y e ∧ PySem.W.alike d e = true ∧ d ≠ .none ∧ SeqAt.shaped d = true ∧ Q (.bl (f d e)) H
theorem op_ltD (hu : X.A.units + 64 < cLine) : OpR X (compareOp .Lt) (rOrdD X.K PySem.W.dataLt) := by
  intro pins s σ H x y v u Q I rx ry h
  obtain ⟨d, e, hd, he, ha, hn, sd, q⟩ := h
  obtain ⟨as, r1⟩ := Dp.reads I d x v hd rx
  obtain ⟨bs, r2⟩ := Dp.reads I e y u he ry
  exact PySem.W.lt_data r1 r2 ha hn (SeqAt.room_of_shaped sd hu) ⟨.bl _, H, I, rfl, q⟩
theorem op_gtD (hu : X.A.units + 64 < cLine) : OpR X (compareOp .Gt) (rOrdD X.K fun a b => PySem.W.dataLt b a) := by
  intro pins s σ H x y v u Q I rx ry h
  obtain ⟨d, e, hd, he, ha, hn, sd, q⟩ := h
  obtain ⟨as, r1⟩ := Dp.reads I d x v hd rx
  obtain ⟨bs, r2⟩ := Dp.reads I e y u he ry
  exact PySem.W.gt_data r1 r2 ha hn (SeqAt.room_of_shaped sd hu) ⟨.bl _, H, I, rfl, q⟩
theorem op_leD (hu : X.A.units + 64 < cLine) : OpR X (compareOp .LtE) (rOrdD X.K fun a b => !PySem.W.dataLt b a) := by
  intro pins s σ H x y v u Q I rx ry h
  obtain ⟨d, e, hd, he, ha, hn, sd, q⟩ := h
  obtain ⟨as, r1⟩ := Dp.reads I d x v hd rx
  obtain ⟨bs, r2⟩ := Dp.reads I e y u he ry
  exact PySem.W.le_data r1 r2 ha hn (SeqAt.room_of_shaped sd hu) ⟨.bl _, H, I, rfl, q⟩
theorem op_geD (hu : X.A.units + 64 < cLine) : OpR X (compareOp .GtE) (rOrdD X.K fun a b => !PySem.W.dataLt a b) := by
  intro pins s σ H x y v u Q I rx ry h
  obtain ⟨d, e, hd, he, ha, hn, sd, q⟩ := h
  obtain ⟨as, r1⟩ := Dp.reads I d x v hd rx
  obtain ⟨bs, r2⟩ := Dp.reads I e y u he ry
  exact PySem.W.ge_data r1 r2 ha hn (SeqAt.room_of_shaped sd hu) ⟨.bl _, H, I, rfl, q⟩
theorem cmp_ord (hK : W.K = X.K) {f : Int → Int → Bool} {g : Tx → Tx → Bool} {h : D → D → Bool} {f' : Int → Int → Bool} {g' : Str → Str → Bool} {h' : PyData → PyData → Bool} (hf : ∀ i j, f i j = f' i j) (hg : ∀ i j, g i j = g' ⟨i.toArray⟩ ⟨j.toArray⟩) (hh : ∀ i j, h i j = h' (toPy i) (toPy j))
    (s : Sr W α F S H) (rx : VlR W α F S.length x v) (ry : VlR W α F S.length y u) (p : Post W E (VlX W) α F S H (cOrd f g h x y S) Q) :
    ((rI0 fun i j => .bl (f' i j)) v u H Q ∨ ∃ i j, v = .str i ∧ u = .str j ∧ Q (.bl (g' i j)) H) ∨ rOrdD X.K h' v u H Q := by
  cases x with
  | p n => exact p.elim
  | d x =>
    cases x with
    | int i =>
      cases y with
      | p n => exact p.elim
      | d y =>
        cases y with
        | int j => exact .inl (.inl ⟨i, j, rx, ry, by show Q (.bl (f' i j)) H; rw [← hf]; exact p.here s rfl⟩)
        | _ => exact p.elim
    | str i =>
      cases y with
      | p n => exact p.elim
      | d y =>
        cases y with
        | str j => exact .inl (.inr ⟨_, _, rx, ry, by rw [← hg]; exact p.here s rfl⟩)
        | _ => exact p.elim
    | tup a =>
      cases y with
      | p n => exact p.elim
      | d y =>
        cases y with
        | tup b =>
          have p : Post W E (VlX W) α F S H (if ordOk (.tup a) (.tup b) then .ok (.d (.bl (h (.tup a) (.tup b)))) S else .bad) Q := p
          by_cases hz : ordOk (.tup a) (.tup b) = true
          · rw [if_pos hz] at p
            unfold ordOk at hz
            simp only [Bool.and_eq_true] at hz
            refine .inr ⟨toPy (.tup a), toPy (.tup b), dp_of hK s.sub 64 _ _ hz.1.1.1 rx, dp_of hK s.sub 64 _ _ hz.1.1.2 ry, hz.1.2, by simp [toPy], shaped_of hz.1.1.1, ?_⟩
            rw [← hh]
            exact p.here s rfl
          · rw [if_neg hz] at p
            exact p.elim
        | _ => exact p.elim
    | _ => exact p.elim
theorem isNone_of (r : VlR W α F S.length x v) : isNone x = decide (v = .non) := by
  cases x with
  | p n => obtain ⟨e, _⟩ := (show v = .ref (α n) ∧ n < S.length from r); subst e; rfl
  | d d =>
    have r : Rp W F d v := r
    cases d <;> simp only [Rp] at r <;> first | (obtain ⟨_, _, _, e, _⟩ := r; subst e; rfl) | (obtain ⟨_, _, e, _⟩ := r; subst e; rfl) | (obtain ⟨_, e, _⟩ := r; subst e; rfl) | (subst r; rfl) | exact r.elim
theorem cmp_is (neg : Bool) (s : Sr W α F S H) (rx : VlR W α F S.length x v) (ry : VlR W α F S.length y u) (p : Post W E (VlX W) α F S H (cIs neg x y S) Q) :
    (u = .non ∧ Q (.bl (if neg then !decide (v = .non) else decide (v = .non))) H) ∨ ∃ a b : Bool, v = .bl a ∧ u = .bl b ∧ Q (.bl (if neg then !decide (a = b) else decide (a = b))) H := by
  cases y with
  | p n => exact p.elim
  | d y =>
    cases y with
    | non =>
      have q := p.here s rfl
      rw [isNone_of rx] at q
      exact .inl ⟨ry, q⟩
    | bl b =>
      cases x with
      | p n => exact p.elim
      | d x =>
        cases x with
        | bl a => exact .inr ⟨a, b, rx, ry, p.here s rfl⟩
        | _ => exact p.elim
    | _ => exact p.elim
theorem flatV_of {d : D} (h : isFlat d = true) (r : Rp W F d v) : flatV v = true := by
  cases d <;> simp [isFlat] at h <;> simp only [Rp] at r <;> subst r <;> rfl
theorem eqV_of {d e : D} (h : isFlat d = true) (h' : isFlat e = true) (r : Rp W F d v) (r' : Rp W F e u) : eqV v u = eqv d e := by
  cases d <;> simp [isFlat] at h <;> cases e <;> simp [isFlat] at h' <;> simp only [Rp] at r r' <;> subst r <;> subst r'
  all_goals first
    | rfl
    | (simp [eqV, eqv, nz, D.beq]; done)
    | (rename_i b b'; cases b <;> cases b' <;> rfl)
    | (rename_i b b'; cases b <;> simp [eqV, eqv, nz, D.beq, eq_comm] <;> rfl)
    | (rename_i b b'; cases b' <;> simp [eqV, eqv, nz, D.beq, eq_comm] <;> rfl)
    | (rename_i b b'; show decide _ = decide _; simp [str_eq]; done)
    | (rename_i b b'; show (_ == _) = decide _; rw [Bool.eq_iff_iff]; simp [str_eq]; done)
theorem memV_of {d : D} (h : isFlat d = true) (r : Rp W F d v) : ∀ {ds : List D} {vs : List V}, ds.all isFlat = true → Rps W F ds vs → vs.all flatV = true ∧ inV v vs = ds.any fun e => eqv e d
  | [], _, _, q => by cases (show _ = [] from q); exact ⟨rfl, rfl⟩
  | c :: ds, _, ha, q => by
    obtain ⟨w, r0, e, r1, r2⟩ := q
    subst e
    rw [List.all_cons, Bool.and_eq_true] at ha
    obtain ⟨h1, h2⟩ := memV_of h r ha.2 r2
    refine ⟨by rw [List.all_cons, flatV_of ha.1 r1, h1]; rfl, ?_⟩
    unfold inV at h2 ⊢
    rw [List.any_cons, List.any_cons, h2, eqV_of ha.1 h r1 r]
theorem seq_of_list {y : Vl} {S : Sto} {zs : List Vl} (h : listOf y S = some zs) : seqOf y S = some zs := by
  cases y with
  | p n =>
    simp only [listOf] at h
    simp only [seqOf]
    exact h
  | d y => cases y <;> first | exact h | cases h
theorem any_py (n m : Nat) (x : D) (hx : isData m x = true) : ∀ ds : List D, isDatas n ds = true → (toPys ds).any (fun z => PyData.eqv z (toPy x)) = ds.any fun e => eqv e x
  | [], _ => rfl
  | d :: ds, h => by
    have h : (isData n d && isDatas n ds) = true := by rw [isDatas] at h; exact h
    rw [Bool.and_eq_true] at h
    show (PyData.eqv (toPy d) (toPy x) || (toPys ds).any fun z => PyData.eqv z (toPy x)) = _
    rw [eqv_py n m d x h.1 hx, any_py n m x hx ds h.2, List.any_cons]
theorem cmp_mem (hK : W.K = X.K) (neg : Bool) (s : Sr W α F S H) (rx : VlR W α F S.length x v) (ry : VlR W α F S.length y u) (p : Post W E (VlX W) α F S H (cMem neg x y S) Q) :
    rIn X.K neg v u H Q ∨ (∃ (c : Nat) (z : Str), v = .str ⟨#[c]⟩ ∧ u = .str z ∧ Q (.bl (if neg then !decide (c ∈ z.cps.toList) else decide (c ∈ z.cps.toList))) H) ∨
      ∃ d ds, Dp X.K H v d ∧ Dp X.K H u (.list ds) ∧ SeqAt.shaped d = true ∧ SeqAt.shaped (.list ds) = true ∧ Q (.bl (if neg then !(ds.any fun z => PyData.eqv z d) else ds.any fun z => PyData.eqv z d)) H := by
  unfold cMem at p
  cases x with
  | p n => exact p.elim
  | d x =>
    simp only [contains] at p
    cases ey : seqOf y S with
    | none =>
      rw [ey] at p
      cases y with
      | p n => exact p.elim
      | d y =>
        cases y with
        | str z =>
          cases x with
          | str w =>
            match w with
            | [c] => exact .inr (.inl ⟨c, ⟨z.toArray⟩, rx, ry, p.here s rfl⟩)
            | [] => exact p.elim
            | _ :: _ :: _ => exact p.elim
          | _ => exact p.elim
        | _ => exact p.elim
    | some ys =>
      rw [ey] at p
      simp only at p
      cases ep : pures ys with
      | none => rw [ep] at p; exact p.elim
      | some ds =>
        rw [ep] at p
        simp only [memFlat] at p
        by_cases hz : (isFlat x && ds.all isFlat) = true
        · rw [if_pos hz] at p
          rw [Bool.and_eq_true] at hz
          obtain ⟨a, vs, rfl, q, r⟩ := ry.seq s ey
          obtain ⟨h1, h2⟩ := memV_of hz.1 rx hz.2 (r.pures ep)
          refine .inl ⟨a, vs, rfl, by rw [← hK]; exact q, flatV_of hz.1 rx, h1, ?_⟩
          rw [h2]
          exact p.here s rfl
        · rw [if_neg hz] at p
          simp only at p
          by_cases hd : ((listOf y S).isSome && isData 64 x && isData 64 (.lst ds)) = true
          · rw [if_pos hd] at p
            simp only [Bool.and_eq_true] at hd
            obtain ⟨zs, hzs⟩ := Option.isSome_iff_exists.mp hd.1.1
            obtain ⟨a, vs, rfl, q, r⟩ := ry.list s hzs
            have hzy : zs = ys := by
              have := seq_of_list hzs
              rw [this] at ey
              exact Option.some.inj ey
            subst hzy
            have hD : isDatas 63 ds = true := by have := hd.2; rw [isData] at this; exact this
            refine .inr (.inr ⟨toPy x, toPys ds, dp_of hK s.sub 64 _ _ hd.1.2 rx, .lst (.of q) (dps_of hK s.sub 63 _ _ hD (r.pures ep)), shaped_of hd.1.2, shaped_of hd.2, ?_⟩)
            have e : (toPys ds).any (fun z => PyData.eqv z (toPy x)) = ds.any fun e => eqv e x := any_py 63 64 x hd.1.2 ds hD
            rw [e]
            exact p.here s rfl
          · rw [if_neg hd] at p
            exact p.elim

/-- a comparison's rule -/
theorem cmp_rule (hK : W.K = X.K) (hu1 : X.A.units + 100 < cLine) {op : CmpOp} {o : Cm} (ho : cCm op = some o) : ∃ r : R2, OpR X (compareOp op) r ∧
    ∀ {α F S H x y v u} {Q : VK}, Sr W α F S H → VlR W α F S.length x v → VlR W α F S.length y u → Post W E (VlX W) α F S H (cmpop o x y S) Q → r v u H Q := by
  have hu : X.A.units + 64 < cLine := by omega
  cases op <;> simp [cCm] at ho <;> subst ho
  · refine ⟨_, op_eq.or (op_eqD hu), fun s rx ry p => ?_⟩
    rcases cmp_eqv hK false s rx ry p with ⟨b, h1, h2, q⟩ | q
    · exact .inl ⟨h1, by rw [h2]; exact q⟩
    · exact .inr q
  · refine ⟨_, op_ne.or (op_neD hu), fun s rx ry p => ?_⟩
    rcases cmp_eqv hK true s rx ry p with ⟨b, h1, h2, q⟩ | q
    · exact .inl ⟨h1, by rw [h2]; exact q⟩
    · exact .inr q
  · exact ⟨_, (op_lt.or op_lt_str).or (op_ltD hu), fun s rx ry p => cmp_ord hK (h' := PySem.W.dataLt) (f' := fun i j => decide (i < j)) (g' := fun i j => decide (i.cps.toList < j.cps.toList)) (fun _ _ => rfl) (fun _ _ => rfl) (fun _ _ => rfl) s rx ry p⟩
  · exact ⟨_, (op_le.or op_le_str).or (op_leD hu), fun s rx ry p => cmp_ord hK (h' := fun a b => !PySem.W.dataLt b a) (f' := fun i j => decide (i ≤ j)) (g' := fun i j => !decide (j.cps.toList < i.cps.toList)) (fun _ _ => rfl) (fun _ _ => rfl) (fun _ _ => rfl) s rx ry p⟩
  · exact ⟨_, (op_gt.or op_gt_str).or (op_gtD hu), fun s rx ry p => cmp_ord hK (h' := fun a b => PySem.W.dataLt b a) (f' := fun i j => decide (j < i)) (g' := fun i j => decide (j.cps.toList < i.cps.toList)) (fun _ _ => rfl) (fun _ _ => rfl) (fun _ _ => rfl) s rx ry p⟩
  · exact ⟨_, (op_ge.or op_ge_str).or (op_geD hu), fun s rx ry p => cmp_ord hK (h' := fun a b => !PySem.W.dataLt a b) (f' := fun i j => decide (j ≤ i)) (g' := fun i j => !decide (i.cps.toList < j.cps.toList)) (fun _ _ => rfl) (fun _ _ => rfl) (fun _ _ => rfl) s rx ry p⟩
  · exact ⟨_, op_isN.or op_isBl, fun s rx ry p => cmp_is false s rx ry p⟩
  · exact ⟨_, op_notN.or op_notBl, fun s rx ry p => cmp_is true s rx ry p⟩
  · exact ⟨_, op_in_seq.or (op_in_sign.or (op_inD (Nat.lt_of_le_of_lt (by omega) hu1))), fun s rx ry p => cmp_mem hK false s rx ry p⟩
  · exact ⟨_, op_notIn_seq.or (op_notIn_sign.or (op_notInD (Nat.lt_of_le_of_lt (by omega) hu1))), fun s rx ry p => cmp_mem hK true s rx ry p⟩
/-- a comparison's answer is a bool -/
theorem cmpop_bl (o : Cm) (x y : Vl) (S : Sto) : cmpop o x y S = .bad ∨ ∃ b, cmpop o x y S = .ok (.d (.bl b)) S := by
  have ord : ∀ f g h, cOrd f g h x y S = .bad ∨ ∃ b, cOrd f g h x y S = .ok (.d (.bl b)) S := fun f g h => by
    unfold cOrd
    split
    · split
      · split
        · exact .inr ⟨_, rfl⟩
        · exact .inl rfl
      · exact .inl rfl
    · split
      · exact .inr ⟨_, rfl⟩
      · exact .inl rfl
    · split
      · exact .inr ⟨_, rfl⟩
      · exact .inl rfl
    · exact .inl rfl
  have is : ∀ n, cIs n x y S = .bad ∨ ∃ b, cIs n x y S = .ok (.d (.bl b)) S := fun n => by
    unfold cIs
    split
    · exact .inr ⟨_, rfl⟩
    · split
      · exact .inr ⟨_, rfl⟩
      · exact .inl rfl
    · exact .inl rfl
  have mem : ∀ n, cMem n x y S = .bad ∨ ∃ b, cMem n x y S = .ok (.d (.bl b)) S := fun n => by
    unfold cMem
    split
    · exact .inr ⟨_, rfl⟩
    · exact .inl rfl
  have eq : ∀ n, cEqv n x y S = .bad ∨ ∃ b, cEqv n x y S = .ok (.d (.bl b)) S := fun n => by
    unfold cEqv
    split
    · split
      · exact .inr ⟨_, rfl⟩
      · exact .inl rfl
    · exact .inl rfl
  cases o <;> unfold cmpop <;> first | exact ord _ _ _ | exact is _ | exact mem _ | exact eq _
theorem de_cmp (hK : W.K = X.K) (hu : X.A.units + 100 < cLine) {op : CmpOp} {o : Cm} (ho : cCm op = some o) (hm : behindInMarks op b = false) (ha : PE X a (tD W E fa)) (hb : PE X b (tD W E fb)) :
    PE X (.Compare a [op] [b] pos) (tD W E fun ρ S => (fa ρ S).bind fun x S => (fb ρ S).bind fun y S => cmpop o x y S) := by
  obtain ⟨r, hr, k⟩ := cmp_rule (E := E) hK hu ho
  exact peI (pe_cmpR hr ha hb hm) fun σ H Q h => two h fun s rx ry p => k s rx ry p
/-- a value that is a bool, as a test's answer -/
theorem Post.test {r : Res Vl} {Q : Bool → Hp → Prop} (p : Post W E RelE α F S H (r.bind tru) Q) (hr : r = .bad ∨ (∃ b S', r = .ok (.d (.bl b)) S') ∨ ∃ e S', r = .exc e S') : Post W E (VlX W) α F S H r fun x H' => ∃ k, x = .bl k ∧ Q k H' := by
  rcases hr with rfl | ⟨b, S', rfl⟩ | ⟨e, S', rfl⟩
  · exact p
  · exact fun w α' F' H' x s q => ⟨b, q, p b α' F' H' x s rfl⟩
  · exact p
theorem dt_cmp (hK : W.K = X.K) (hu : X.A.units + 100 < cLine) {op : CmpOp} {o : Cm} (ho : cCm op = some o) (hm : behindInMarks op b = false) (ha : PE X a (tD W E fa)) (hb : PE X b (tD W E fb)) :
    PT X (.Compare a [op] [b] pos) (tDT W E fun ρ S => ((fa ρ S).bind fun x S => (fb ρ S).bind fun y S => cmpop o x y S).bind tru) := by
  obtain ⟨r, hr, k⟩ := cmp_rule (E := E) hK hu ho
  refine ptI (pt_cmpR hr ha hb hm) fun σ H Q ⟨α, F, ρ, S, s, er, p⟩ => ?_
  refine two (g := cmpop o) (fa := fa) (fb := fb) (r := r) ⟨α, F, ρ, S, s, er, ?_⟩ fun s rx ry p => k s rx ry p
  refine p.test ?_
  cases ha : fa ρ S with
  | bad => exact .inl rfl
  | exc e S' => exact .inr (.inr ⟨e, S', rfl⟩)
  | ok x S1 =>
    cases hb : fb ρ S1 with
    | bad => exact .inl (by simp [Res.bind, hb])
    | exc e S' => exact .inr (.inr ⟨e, S', by simp [Res.bind, hb]⟩)
    | ok y S2 =>
      rcases cmpop_bl o x y S2 with h | ⟨b, h⟩
      · exact .inl (by simp [Res.bind, hb, h])
      · exact .inr (.inl ⟨b, S2, by simp [Res.bind, hb, h]⟩)
def chainF (fa fb fc : Env → Sto → Res Vl) (c c' : Cm) : Env → Sto → Res Vl := fun ρ S => (fa ρ S).bind fun x S => (fb ρ S).bind fun y S => (cmpop c x y S).bind fun r S => match r with
    | .d (.bl true) => (fc ρ S).bind fun z S => cmpop c' y z S
    | .d (.bl false) => .ok (.d (.bl false)) S
    | _ => .bad
theorem chain_of {fc : Env → Sto → Res Vl} {c c' : Cm} {r r' : R2} (k : ∀ {α F S H x y v u} {Q : VK}, Sr W α F S H → VlR W α F S.length x v → VlR W α F S.length y u → Post W E (VlX W) α F S H (cmpop c x y S) Q → r v u H Q)
    (k' : ∀ {α F S H x y v u} {Q : VK}, Sr W α F S H → VlR W α F S.length x v → VlR W α F S.length y u → Post W E (VlX W) α F S H (cmpop c' x y S) Q → r' v u H Q)
    {σ : L2.St} {H : Hp} {Q : VK} (h : tD W E (chainF fa fb fc c c') σ H Q) : tChain r r' (tD W E fa) (tD W E fb) (tD W E fc) σ H Q := by
  obtain ⟨α, F, ρ, S, s, er, p⟩ := h
  refine ⟨α, F, ρ, S, s, er, (Post.bind p).imp fun v H1 ⟨α1, F1, x, S1, x1, s1, r1, p1⟩ => ?_⟩
  refine ⟨α1, F1, ρ, S1, s1, er.ext x1, (Post.bind p1).imp fun u H2 ⟨α2, F2, y, S2, x2, s2, r2, p2⟩ => ?_⟩
  refine k s2 (r1.ext x2) r2 ((Post.bind (Rel := VlX W) p2).imp fun w H3 ⟨α3, F3, z, S3, x3, s3, r3, p3⟩ => ?_)
  cases z with
  | p n => exact p3.elim
  | d z =>
    cases z with
    | bl z =>
      refine ⟨z, r3, ?_⟩
      cases z with
      | false =>
        rw [if_neg Bool.false_ne_true]
        exact p3.here s3 rfl
      | true =>
        rw [if_pos rfl]
        refine ⟨α3, F3, ρ, S3, s3, (er.ext x1).ext (x2.trans x3), (Post.bind p3).imp fun q H4 ⟨α4, F4, z, S4, x4, s4, r4, p4⟩ => ?_⟩
        exact k' s4 (r2.ext (x3.trans x4)) r4 p4
    | _ => exact p3.elim
theorem de_chain (hK : W.K = X.K) (hu : X.A.units + 100 < cLine) {c : Expr} {fc : Env → Sto → Res Vl} {op op' : CmpOp} {o o' : Cm} (ho : cCm op = some o) (ho' : cCm op' = some o') (hm : lastMarks [op, op'] [b, c] = false)
    (ha : PE X a (tD W E fa)) (hb : PE X b (tD W E fb)) (hc : PE X c (tD W E fc)) : PE X (.Compare a [op, op'] [b, c] pos) (tD W E (chainF fa fb fc o o')) := by
  obtain ⟨r, hr, k⟩ := cmp_rule (E := E) hK hu ho
  obtain ⟨r', hr', k'⟩ := cmp_rule (E := E) hK hu ho'
  exact peI (pe_chain hr hr' ha hb hc hm) fun σ H Q h => chain_of k k' h
theorem dt_chain (hK : W.K = X.K) (hu : X.A.units + 100 < cLine) {c : Expr} {fc : Env → Sto → Res Vl} {op op' : CmpOp} {o o' : Cm} (ho : cCm op = some o) (ho' : cCm op' = some o') (hm : lastMarks [op, op'] [b, c] = false)
    (ha : PE X a (tD W E fa)) (hb : PE X b (tD W E fb)) (hc : PE X c (tD W E fc)) : PT X (.Compare a [op, op'] [b, c] pos) (tDT W E fun ρ S => (chainF fa fb fc o o' ρ S).bind tru) := by
  obtain ⟨r, hr, k⟩ := cmp_rule (E := E) hK hu ho
  obtain ⟨r', hr', k'⟩ := cmp_rule (E := E) hK hu ho'
  refine ptI (pt_chain hr hr' ha hb hc hm) fun σ H Q ⟨α, F, ρ, S, s, er, p⟩ => ?_
  refine chain_of k k' ⟨α, F, ρ, S, s, er, p.test ?_⟩
  unfold chainF
  cases ha : fa ρ S with
  | bad => exact .inl rfl
  | exc e S' => exact .inr (.inr ⟨e, S', rfl⟩)
  | ok x S1 =>
    simp only [Res.bind]
    cases hb : fb ρ S1 with
    | bad => exact .inl rfl
    | exc e S' => exact .inr (.inr ⟨e, S', rfl⟩)
    | ok y S2 =>
      simp only
      rcases cmpop_bl o x y S2 with h | ⟨b, h⟩
      · exact .inl (by rw [h])
      · rw [h]
        simp only
        cases b with
        | false => exact .inr (.inl ⟨false, S2, rfl⟩)
        | true =>
          simp only
          cases hc : fc ρ S2 with
          | bad => exact .inl rfl
          | exc e S' => exact .inr (.inr ⟨e, S', rfl⟩)
          | ok z S3 =>
            simp only
            rcases cmpop_bl o' y z S3 with h | ⟨b, h⟩
            · exact .inl h
            · exact .inr (.inl ⟨b, S3, h⟩)
end
end Z
end

section
set_option maxHeartbeats 1000000
/-! Z9: truth, bool operators, displays, subscripts, slices. -/
namespace Z
open PySem L2

section
variable {X : Cx} {W : Wd} {E : XK} {a b c e : Expr} {es : List Expr} {pos : Pos} {fa fb fc : Env → Sto → Res Vl}
variable {α : Nat → Addr} {F : Hp} {S : Sto} {H : Hp} {Q : VK} {x y : Vl} {v u : V}

theorem isEmpty_len {τ τ' : Type} {xs : List τ} {ys : List τ'} (h : xs.length = ys.length) : xs.isEmpty = ys.isEmpty := by
  cases xs <;> cases ys <;> simp at h ⊢
theorem tru_of (hK : W.K = X.K) {Qb : Bool → Hp → Prop} (s : Sr W α F S H) (r : VlR W α F S.length x v) (p : Post W E RelE α F S H (tru x S) Qb) : ∃ k, TruV X.K v H k ∧ Qb k H := by
  unfold tru at p
  cases e : truthy x S with
  | none => rw [e] at p; exact p.elim
  | some k =>
    rw [e] at p
    refine ⟨k, ?_, p.here s rfl⟩
    cases x with
    | p n =>
      obtain ⟨ev, hl⟩ := (show v = .ref (α n) ∧ n < S.length from r)
      simp only [truthy] at e
      cases hn : S[n]? with
      | none => rw [hn] at e; cases e
      | some c =>
        rw [hn] at e
        cases c <;> simp at e
        obtain ⟨vs, hv, rr⟩ := s.cel n _ hn
        subst ev
        exact .inl ⟨vs, .of hv, by rw [← isEmpty_len rr.length, e]; simp⟩
    | d d =>
      have r : Rp W F d v := r
      cases d with
      | non => cases e; cases (show v = V.non from r); rfl
      | bl b => cases e; cases (show v = V.bl _ from r); rfl
      | int i => cases e; cases (show v = V.int _ from r); rfl
      | str z =>
        cases (show v = V.str ⟨z.toArray⟩ from r)
        have e : (if decide (z.length ≤ most) then some ((z.length : Int) != 0) else none) = some k := e
        by_cases hz : z.length ≤ most
        · rw [if_pos (by simpa using hz)] at e
          refine ⟨by rw [str_len, ← most_eq]; exact hz, ?_⟩
          rw [str_len]
          exact (Option.some.inj e).symm
        · rw [if_neg (by simpa using hz)] at e; cases e
      | lst ds =>
        cases e
        obtain ⟨a, vs, rfl, q, rr⟩ := r
        exact .inl ⟨vs, .of (s.sub _ _ q), by rw [isEmpty_len rr.length]⟩
      | tup ds =>
        cases e
        obtain ⟨a, vs, rfl, q, rr⟩ := r
        exact .inr (.inl ⟨vs, by rw [← hK]; exact s.sub.sqT q, by rw [isEmpty_len rr.length]⟩)
      | _ => cases e
/-- a test by a value's truth -/
theorem dt_truth (hK : W.K = X.K) (ha : PE X a (tD W E fa)) (he : ∀ whole, isTrue a X.env whole = (do let v ← whole; standAt a.pos; holding [v] (PySem.truthy v))) : PT X a (tDT W E fun ρ S => (fa ρ S).bind tru) :=
  ptI (pt_truth ha he) fun σ H Q ⟨α, F, ρ, S, s, er, p⟩ => ⟨α, F, ρ, S, s, er, (Post.bind p).imp fun v H1 ⟨α1, F1, x, S1, x1, s1, r1, p1⟩ => tru_of hK s1 r1 p1⟩

/-! ### and, or, not -/
def andF (fa fb : Env → Sto → Res Vl) : Env → Sto → Res Vl := fun ρ S => (fa ρ S).bind fun x S => (tru x S).bind fun k S => if k then fb ρ S else .ok x S
def orF (fa fb : Env → Sto → Res Vl) : Env → Sto → Res Vl := fun ρ S => (fa ρ S).bind fun x S => (tru x S).bind fun k S => if k then .ok x S else fb ρ S
def notF (fa : Env → Sto → Res Vl) : Env → Sto → Res Vl := fun ρ S => (fa ρ S).bind fun x S => (tru x S).bind fun k S => .ok (.d (.bl (!k))) S
def iteF' (fc fa fb : Env → Sto → Res Vl) : Env → Sto → Res Vl := fun ρ S => (fc ρ S).bind fun x S => (tru x S).bind fun k S => if k then fa ρ S else fb ρ S
theorem tru_same (x : Vl) (S : Sto) : tru x S = .bad ∨ ∃ k, tru x S = .ok k S := by
  unfold tru
  split
  · exact .inr ⟨_, rfl⟩
  · exact .inl rfl
theorem and_test (fa fb : Env → Sto → Res Vl) (ρ : Env) (S : Sto) : (andF fa fb ρ S).bind tru = ((fa ρ S).bind tru).bind fun k S => if k then (fb ρ S).bind tru else .ok false S := by
  unfold andF
  cases fa ρ S with
  | bad => rfl
  | exc e S' => rfl
  | ok x S1 =>
    simp only [Res.bind]
    rcases tru_same x S1 with h | ⟨k, h⟩
    · simp only [h]
    · simp only [h]
      cases k
      · simp [h]
      · simp
theorem or_test (fa fb : Env → Sto → Res Vl) (ρ : Env) (S : Sto) : (orF fa fb ρ S).bind tru = ((fa ρ S).bind tru).bind fun k S => if k then .ok true S else (fb ρ S).bind tru := by
  unfold orF
  cases fa ρ S with
  | bad => rfl
  | exc e S' => rfl
  | ok x S1 =>
    simp only [Res.bind]
    rcases tru_same x S1 with h | ⟨k, h⟩
    · simp only [h]
    · simp only [h]
      cases k
      · simp
      · simp [h]
theorem not_test (fa : Env → Sto → Res Vl) (ρ : Env) (S : Sto) : (notF fa ρ S).bind tru = ((fa ρ S).bind tru).bind fun k S => .ok (!k) S := by
  unfold notF
  cases fa ρ S with
  | bad => rfl
  | exc e S' => rfl
  | ok x S1 =>
    simp only [Res.bind]
    rcases tru_same x S1 with h | ⟨k, h⟩
    · simp only [h]
    · simp only [h]
      rfl
theorem ite_test (fc fa fb : Env → Sto → Res Vl) (ρ : Env) (S : Sto) : (iteF' fc fa fb ρ S).bind tru = ((fc ρ S).bind tru).bind fun k S => if k then (fa ρ S).bind tru else (fb ρ S).bind tru := by
  unfold iteF'
  cases fc ρ S with
  | bad => rfl
  | exc e S' => rfl
  | ok x S1 =>
    simp only [Res.bind]
    rcases tru_same x S1 with h | ⟨k, h⟩
    · simp only [h]
    · simp only [h]
      cases k <;> simp
/-- a test, then two ways -/
theorem test_then {t u : TT} {ft fu fw : Env → Sto → Res Bool} {σ : L2.St} {H : Hp} {Q : Bool → Hp → Prop} (h : tDT W E (fun ρ S => (ft ρ S).bind fun k S => if k then fu ρ S else fw ρ S) σ H Q) :
    tDT W E ft σ H fun k H1 => if k = true then tDT W E fu σ H1 Q else tDT W E fw σ H1 Q := by
  obtain ⟨α, F, ρ, S, s, er, p⟩ := h
  refine ⟨α, F, ρ, S, s, er, (Post.bind p).imp fun k H1 ⟨α1, F1, k', S1, x1, s1, r1, p1⟩ => ?_⟩
  cases (show k' = k from r1)
  cases k with
  | true => exact ⟨α1, F1, ρ, S1, s1, er.ext x1, p1⟩
  | false => exact ⟨α1, F1, ρ, S1, s1, er.ext x1, p1⟩
theorem ok_dt {k : Bool} {σ : L2.St} {H : Hp} {Q : Bool → Hp → Prop} (h : tDT W E (fun _ S => .ok k S) σ H Q) : Q k H := by
  obtain ⟨α, F, ρ, S, s, er, p⟩ := h
  exact p.here s rfl
theorem tDT_congr {f g : Env → Sto → Res Bool} (h : ∀ ρ S, f ρ S = g ρ S) {σ : L2.St} {H : Hp} {Q : Bool → Hp → Prop} (q : tDT W E f σ H Q) : tDT W E g σ H Q := by
  have : f = g := funext fun ρ => funext fun S => h ρ S
  rw [← this]; exact q
theorem dw_and (ha : PT X a (tDT W E fun ρ S => (fa ρ S).bind tru)) (hb : PW X (.BoolOp .And (b :: es) pos) (tDT W E fun ρ S => (fb ρ S).bind tru)) : PW X (.BoolOp .And (a :: b :: es) pos) (tDT W E fun ρ S => (andF fa fb ρ S).bind tru) := by
  refine ⟨fun whole pins s σ H Q I h => (pw_and ha hb).run whole pins s σ H Q I ?_⟩
  have h := test_then (t := tYes) (u := tYes) (ft := fun ρ S => (fa ρ S).bind tru) (fu := fun ρ S => (fb ρ S).bind tru) (fw := fun _ S => .ok false S) (tDT_congr (and_test fa fb) h)
  obtain ⟨α, F, ρ, S, s, er, p⟩ := h
  refine ⟨α, F, ρ, S, s, er, p.imp fun k H1 q => ?_⟩
  cases k with
  | true => exact q
  | false => exact ok_dt q
theorem dw_or (ha : PT X a (tDT W E fun ρ S => (fa ρ S).bind tru)) (hb : PW X (.BoolOp .Or (b :: es) pos) (tDT W E fun ρ S => (fb ρ S).bind tru)) : PW X (.BoolOp .Or (a :: b :: es) pos) (tDT W E fun ρ S => (orF fa fb ρ S).bind tru) := by
  refine ⟨fun whole pins s σ H Q I h => (pw_or ha hb).run whole pins s σ H Q I ?_⟩
  have h := test_then (t := tYes) (u := tYes) (ft := fun ρ S => (fa ρ S).bind tru) (fu := fun _ S => .ok true S) (fw := fun ρ S => (fb ρ S).bind tru) (tDT_congr (or_test fa fb) h)
  obtain ⟨α, F, ρ, S, s, er, p⟩ := h
  refine ⟨α, F, ρ, S, s, er, p.imp fun k H1 q => ?_⟩
  cases k with
  | true => exact ok_dt q
  | false => exact q
theorem dt_not (ha : PT X a (tDT W E fun ρ S => (fa ρ S).bind tru)) : PT X (.UnaryOp .Not a pos) (tDT W E fun ρ S => (notF fa ρ S).bind tru) := by
  refine ptI (pt_not ha) fun σ H Q h => ?_
  obtain ⟨α, F, ρ, S, s, er, p⟩ := tDT_congr (not_test fa) h
  refine ⟨α, F, ρ, S, s, er, (Post.bind p).imp fun k H1 ⟨α1, F1, k', S1, x1, s1, r1, p1⟩ => ?_⟩
  cases (show k' = k from r1)
  exact p1.here s1 rfl
theorem pt_ifExp {tc ta tb : TT} (hc : PT X c tc) (ha : PT X a ta) (hb : PT X b tb) : PT X (.IfExp c a b pos) (fun σ H Q => tc σ H fun k H1 => if k = true then ta σ H1 Q else tb σ H1 Q) := by
  refine ⟨fun pins s σ H Q I h => ?_⟩
  show wpAny _ _ (isTrue c X.env (eval c X.env) >>= fun k => if k = true then isTrue a X.env (eval a X.env) else isTrue b X.env (eval b X.env)) _ _ _
  refine wpAny_bind (thn (hc.run pins s σ H _ I h) fun d s1 ⟨H1, I1, q1⟩ => ?_)
  cases d with
  | true => exact ha.run pins s1 σ H1 Q I1 q1
  | false => exact hb.run pins s1 σ H1 Q I1 q1
theorem dt_ite (hc : PT X c (tDT W E fun ρ S => (fc ρ S).bind tru)) (ha : PT X a (tDT W E fun ρ S => (fa ρ S).bind tru)) (hb : PT X b (tDT W E fun ρ S => (fb ρ S).bind tru)) :
    PT X (.IfExp c a b pos) (tDT W E fun ρ S => (iteF' fc fa fb ρ S).bind tru) := by
  refine ptI (pt_ifExp hc ha hb) fun σ H Q h => ?_
  exact test_then (t := tYes) (u := tYes) (ft := fun ρ S => (fc ρ S).bind tru) (fu := fun ρ S => (fa ρ S).bind tru) (fw := fun ρ S => (fb ρ S).bind tru) (tDT_congr (ite_test fc fa fb) h)
/-- a value's truth, then two ways with the value -/
theorem tru_then (hK : W.K = X.K) {τ β : Type} {Rel : (Nat → Addr) → Hp → Sto → Hp → τ → β → Prop} {Qx : β → Hp → Prop} {g : Bool → Sto → Res τ} (s : Sr W α F S H) (r : VlR W α F S.length x v) (p : Post W E Rel α F S H ((tru x S).bind g) Qx) :
    ∃ k, TruV X.K v H k ∧ Post W E Rel α F S H (g k S) Qx := by
  rcases tru_same x S with h | ⟨k, h⟩
  · rw [h] at p; exact p.elim
  · rw [h] at p
    have : Post W E RelE α F S H (tru x S) (fun k' _ => k' = k) := by
      rw [h]
      exact fun w α' F' H' _ _ q => q.symm
    obtain ⟨k', t, e⟩ := tru_of hK s r this
    subst e
    exact ⟨k', t, p⟩
theorem de_and (hK : W.K = X.K) (ha : PE X a (tD W E fa)) (hb : PE X (.BoolOp .And (b :: es) pos) (tD W E fb)) : PE X (.BoolOp .And (a :: b :: es) pos) (tD W E (andF fa fb)) := by
  refine peI (pe_andT ha hb) fun σ H Q ⟨α, F, ρ, S, s, er, p⟩ => ⟨α, F, ρ, S, s, er, (Post.bind p).imp fun v H1 ⟨α1, F1, x, S1, x1, s1, r1, p1⟩ => ?_⟩
  obtain ⟨k, t, p2⟩ := tru_then hK s1 r1 p1
  refine ⟨k, t, ?_⟩
  cases k with
  | true => exact ⟨α1, F1, ρ, S1, s1, er.ext x1, p2⟩
  | false => exact p2.here s1 r1
theorem de_or (hK : W.K = X.K) (ha : PE X a (tD W E fa)) (hb : PE X (.BoolOp .Or (b :: es) pos) (tD W E fb)) : PE X (.BoolOp .Or (a :: b :: es) pos) (tD W E (orF fa fb)) := by
  refine peI (pe_orT ha hb) fun σ H Q ⟨α, F, ρ, S, s, er, p⟩ => ⟨α, F, ρ, S, s, er, (Post.bind p).imp fun v H1 ⟨α1, F1, x, S1, x1, s1, r1, p1⟩ => ?_⟩
  obtain ⟨k, t, p2⟩ := tru_then hK s1 r1 p1
  refine ⟨k, t, ?_⟩
  cases k with
  | false => exact ⟨α1, F1, ρ, S1, s1, er.ext x1, p2⟩
  | true => exact p2.here s1 r1
theorem de_not (hK : W.K = X.K) (ha : PE X a (tD W E fa)) : PE X (.UnaryOp .Not a pos) (tD W E (notF fa)) := by
  refine peI (pe_notT ha) fun σ H Q ⟨α, F, ρ, S, s, er, p⟩ => ⟨α, F, ρ, S, s, er, (Post.bind p).imp fun v H1 ⟨α1, F1, x, S1, x1, s1, r1, p1⟩ => ?_⟩
  obtain ⟨k, t, p2⟩ := tru_then hK s1 r1 p1
  exact ⟨k, t, p2.here s1 rfl⟩
theorem de_ite (hc : PT X c (tDT W E fun ρ S => (fc ρ S).bind tru)) (ha : PE X a (tD W E fa)) (hb : PE X b (tD W E fb)) : PE X (.IfExp c a b pos) (tD W E (iteF' fc fa fb)) := by
  refine peI (pe_ifExp hc ha hb) fun σ H Q ⟨α, F, ρ, S, s, er, p⟩ => ?_
  have e : iteF' fc fa fb ρ S = ((fc ρ S).bind tru).bind fun k S => if k then fa ρ S else fb ρ S := by
    unfold iteF'
    cases fc ρ S <;> rfl
  rw [e] at p
  refine ⟨α, F, ρ, S, s, er, (Post.bind p).imp fun k H1 ⟨α1, F1, k', S1, x1, s1, r1, p1⟩ => ?_⟩
  cases (show k' = k from r1)
  cases k with
  | true => exact ⟨α1, F1, ρ, S1, s1, er.ext x1, p1⟩
  | false => exact ⟨α1, F1, ρ, S1, s1, er.ext x1, p1⟩

/-! ### lists of expressions -/
theorem star_cons (h : notStar e = true) {env : PySem.Env} : starEach (e :: es) env = (false, eval e env) :: starEach es env := by
  cases e <;> first | rfl | (simp [notStar] at h)
theorem star_none : ∀ {es : List Expr} {env : PySem.Env} {pos : Pos}, es.all notStar = true → (backTo pos (starEach es env)).any (·.1) = false
  | [], _, _, _ => rfl
  | e :: es, env, pos, h => by
    rw [List.all_cons, Bool.and_eq_true] at h
    rw [star_cons h.1]
    show (false || (backTo pos (starEach es env)).any (·.1)) = false
    rw [star_none h.2]; rfl
def nilF : Env → Sto → Res (List Vl) := fun _ S => .ok [] S
def consF (fa : Env → Sto → Res Vl) (fs : Env → Sto → Res (List Vl)) : Env → Sto → Res (List Vl) := fun ρ S => (fa ρ S).bind fun v S => (fs ρ S).bind fun vs S => .ok (v :: vs) S
theorem da_nil : PA X [] (tDA W E nilF) := paI pa_nil fun σ H Q ⟨α, F, ρ, S, s, er, p⟩ => p.here s .nil
theorem da_cons {fs : Env → Sto → Res (List Vl)} (hn : notStar e = true) (he : PE X e (tD W E fa)) (hs : PA X es (tDA W E fs)) : PA X (e :: es) (tDA W E (consF fa fs)) :=
  paI (pa_cons he hs (star_cons hn)) fun σ H Q ⟨α, F, ρ, S, s, er, p⟩ => ⟨α, F, ρ, S, s, er, (Post.bind p).imp fun v H1 ⟨α1, F1, x, S1, x1, s1, r1, p1⟩ =>
    ⟨α1, F1, ρ, S1, s1, er.ext x1, (Post.bind (Rel := VlXs W) p1).imp fun vs H2 ⟨α2, F2, xs, S2, x2, s2, r2, p2⟩ => p2.here s2 (.cons (r1.ext x2) r2)⟩⟩

/-! ### displays -/
def tupF (fs : Env → Sto → Res (List Vl)) : Env → Sto → Res Vl := fun ρ S => (fs ρ S).bind fun vs S => match pures vs with
    | some ds => if decide (ds.length ≤ most) then .ok (.d (.tup ds)) S else .bad
    | none => .bad
theorem de_tup {fs : Env → Sto → Res (List Vl)} {k : Nat} (hs : PA X es (tDA W E fs)) : PE X (.Tuple es k pos) (tD W E (tupF fs)) :=
  peI (pe_tup hs) fun σ H Q ⟨α, F, ρ, S, s, er, p⟩ => ⟨α, F, ρ, S, s, er, (Post.bind (Rel := VlXs W) p).imp fun vs H1 ⟨α1, F1, xs, S1, x1, s1, r1, p1⟩ => by
    dsimp only at p1
    cases hp : pures xs with
    | none => rw [hp] at p1; exact p1.elim
    | some ds =>
      rw [hp] at p1
      simp only at p1
      have rr := r1.pures hp
      by_cases hz : ds.length ≤ most
      · rw [if_pos (by simpa using hz)] at p1
        exact ⟨by rw [← rr.length, ← most_eq]; exact hz, fun l hl => fin_tup p1 s1 rr hl⟩
      · rw [if_neg (by simpa using hz)] at p1
        exact p1.elim⟩
theorem de_lst {fs : Env → Sto → Res (List Vl)} {cell : Bool} (hs : PA X es (tDA W E fs)) : PE X (.List es pos) (tD W E fun ρ S => (fs ρ S).bind fun vs S => newList cell vs S) :=
  peI (pe_lst hs) fun σ H Q ⟨α, F, ρ, S, s, er, p⟩ => ⟨α, F, ρ, S, s, er, (Post.bind (Rel := VlXs W) p).imp fun vs H1 ⟨α1, F1, xs, S1, x1, s1, r1, p1⟩ => fin_new p1 s1 r1⟩

/-! ### subscripts -/
theorem Rps.atI {ds : List D} {vs : List V} (r : Rps W F ds vs) {i : Int} {d : D} (h : L2.atI ds i = some d) : ∃ w, L2.atI vs i = some w ∧ Rp W F d w := by
  unfold L2.atI at h ⊢
  rw [← r.length]
  cases e : ixN ds.length i with
  | none => rw [e] at h; cases h
  | some j => rw [e] at h; exact r.get h
theorem VlRs.atI {ds : List Vl} {vs : List V} {N : Nat} (r : VlRs W α F N ds vs) {i : Int} {d : Vl} (h : L2.atI ds i = some d) : ∃ w, L2.atI vs i = some w ∧ VlR W α F N d w := by
  unfold L2.atI at h ⊢
  rw [← r.length]
  cases e : ixN ds.length i with
  | none => rw [e] at h; cases h
  | some j => rw [e] at h; exact r.get h
theorem ix_of (hK : W.K = X.K) (s : Sr W α F S H) (rx : VlR W α F S.length x v) (ry : VlR W α F S.length y u) (p : Post W E (VlX W) α F S H (index x y S) Q) : rIx X.K v u H Q := by
  cases x with
  | p n =>
    obtain ⟨ev, hl⟩ := (show v = .ref (α n) ∧ n < S.length from rx)
    cases y with
    | p m => exact p.elim
    | d y =>
      simp only [index] at p
      cases hn : S[n]? with
      | none => rw [hn] at p; exact p.elim
      | some c =>
        rw [hn] at p
        obtain hc := s.cel n _ hn
        cases c with
        | lst xs =>
          obtain ⟨vs, hv, rr⟩ := hc
          cases y with
          | int i =>
            simp only at p
            cases e : L2.atI xs i with
            | none => rw [e] at p; exact p.elim
            | some z =>
              rw [e] at p
              obtain ⟨w, h1, h2⟩ := rr.atI e
              exact .inl ⟨α n, vs, i, w, ev, ry, .of hv, h1, p.here s h2⟩
          | _ => exact p.elim
        | dct _ => exact hc.elim
        | _ => exact p.elim
  | d x =>
    have rx : Rp W F x v := rx
    cases y with
    | p m => cases x <;> exact p.elim
    | d y =>
      cases x with
      | lst ds =>
        cases y with
        | int i =>
          obtain ⟨a, vs, rfl, q, rr⟩ := rx
          have p : Post W E (VlX W) α F S H (match L2.atI ds i with | some y => .ok (.d y) S | none => .bad) Q := p
          cases e : L2.atI ds i with
          | none => rw [e] at p; exact p.elim
          | some z =>
            rw [e] at p
            obtain ⟨w, h1, h2⟩ := rr.atI e
            exact .inl ⟨a, vs, i, w, rfl, ry, .of (s.sub _ _ q), h1, p.here s h2⟩
        | _ => exact p.elim
      | tup ds =>
        cases y with
        | int i =>
          obtain ⟨a, vs, rfl, q, rr⟩ := rx
          have p : Post W E (VlX W) α F S H (match L2.atI ds i with | some y => .ok (.d y) S | none => .bad) Q := p
          cases e : L2.atI ds i with
          | none => rw [e] at p; exact p.elim
          | some z =>
            rw [e] at p
            obtain ⟨w, h1, h2⟩ := rr.atI e
            exact .inr (.inl ⟨a, vs, i, w, rfl, ry, by rw [← hK]; exact s.sub.sqT q, h1, p.here s h2⟩)
        | _ => exact p.elim
      | str z =>
        cases y with
        | int i =>
          have p : Post W E (VlX W) α F S H (if decide (z.length ≤ most) then (match L2.atI z i with | some c => .ok (.d (.str [c])) S | none => .bad) else .bad) Q := p
          by_cases hz : z.length ≤ most
          · rw [if_pos (by simpa using hz)] at p
            cases e : L2.atI z i with
            | none => rw [e] at p; exact p.elim
            | some c =>
              rw [e] at p
              exact .inr (.inr ⟨⟨z.toArray⟩, i, c, rx, ry, by rw [str_len, ← most_eq]; exact hz, e, p.here s rfl⟩)
          · rw [if_neg (by simpa using hz)] at p; exact p.elim
        | _ => exact p.elim
      | dct _ _ => exact rx.elim
      | _ => exact p.elim
theorem de_ix (hK : W.K = X.K) (hp : PlainIx b) (ha : PE X a (tD W E fa)) (hb : PE X b (tD W E fb)) : PE X (.Subscript a b pos) (tD W E fun ρ S => (fa ρ S).bind fun x S => (fb ρ S).bind fun y S => index x y S) :=
  peI (pe_ix ix_seq ha hb hp) fun σ H Q h => two h fun s rx ry p => ix_of hK s rx ry p

/-! ### slices -/
theorem do_none : PO X none (tDO W E fun _ S => .ok none S) := poI po_none fun σ H Q ⟨α, F, ρ, S, s, er, p⟩ => p.here s rfl
def someF (fa : Env → Sto → Res Vl) : Env → Sto → Res (Option Int) := fun ρ S => (fa ρ S).bind fun v S => match v with
    | .d (.int i) => .ok (some i) S
    | _ => .bad
theorem do_some (ha : PE X a (tD W E fa)) : PO X (some a) (tDO W E (someF fa)) := poI (po_some ha) fun σ H Q ⟨α, F, ρ, S, s, er, p⟩ => ⟨α, F, ρ, S, s, er, (Post.bind p).imp fun v H1 ⟨α1, F1, x, S1, x1, s1, r1, p1⟩ => by
  cases x with
  | p n => exact p1.elim
  | d x =>
    cases x with
    | int i => exact ⟨i, r1, p1.here s1 rfl⟩
    | _ => exact p1.elim⟩
theorem Rps.cut {ds : List D} {vs : List V} (r : Rps W F ds vs) (lo hi : Option Int) : Rps W F (Z.cut ds lo hi) (cutV vs lo hi) := by
  unfold Z.cut cutV
  rw [r.length]
  exact (r.drop _).take _
theorem cut_str (z : Tx) (lo hi : Option Int) : cutS ⟨z.toArray⟩ lo hi = ⟨(Z.cut z lo hi).toArray⟩ := by
  unfold cutS Z.cut
  rw [str_len]
theorem sl_of (hK : W.K = X.K) {lo hi : Option Int} (s : Sr W α F S H) (rx : VlR W α F S.length x v) (p : Post W E (VlX W) α F S H (slice x lo hi S) Q) : rSlS v lo hi H Q ∨ (rSlT X.K v lo hi H Q ∨ rSlL X.K v lo hi H Q) := by
  have lst : Post W E (VlX W) α F S H (sliceL x lo hi S) Q → rSlL X.K v lo hi H Q := fun p => by
    unfold sliceL at p
    cases ex : listOf x S with
    | none => rw [ex] at p; exact p.elim
    | some xs =>
      rw [ex] at p
      simp only at p
      cases px : pures xs with
      | none => rw [px] at p; exact p.elim
      | some ds =>
        rw [px] at p
        obtain ⟨a, vs, rfl, q1, r1⟩ := rx.list s ex
        have r1 := r1.pures px
        exact ⟨a, vs, rfl, .of q1, fun l hl => fin_lst p s (r1.cut lo hi) hl⟩
  cases x with
  | p n => exact .inr (.inr (lst p))
  | d x =>
    have rx' : Rp W F x v := rx
    cases x with
    | str z =>
      have p : Post W E (VlX W) α F S H (if decide (z.length ≤ most) then .ok (.d (.str (Z.cut z lo hi))) S else .bad) Q := p
      by_cases hz : z.length ≤ most
      · rw [if_pos (by simpa using hz)] at p
        refine .inl ⟨⟨z.toArray⟩, rx', by rw [str_len, ← most_eq]; exact hz, ?_⟩
        rw [cut_str]
        exact p.here s rfl
      · rw [if_neg (by simpa using hz)] at p; exact p.elim
    | tup ds =>
      have p : Post W E (VlX W) α F S H (if !(HT.sIx ds.length 0 lo == 0 && HT.sIx ds.length ds.length hi == ds.length) then .ok (.d (.tup (Z.cut ds lo hi))) S else .bad) Q := p
      by_cases hz : (!(HT.sIx ds.length 0 lo == 0 && HT.sIx ds.length ds.length hi == ds.length)) = true
      · rw [if_pos hz] at p
        obtain ⟨a, vs, rfl, q, rr⟩ := rx'
        refine .inr (.inl ⟨a, vs, rfl, by rw [← hK]; exact s.sub.sqT q, ?_, fun l hl => fin_tup p s (rr.cut lo hi) hl⟩)
        rw [← rr.length]
        intro z
        simp [z.1, z.2] at hz
      · rw [if_neg hz] at p; exact p.elim
    | _ => exact .inr (.inr (lst p))
theorem de_sl (hK : W.K = X.K) {lo hi : Option Expr} {p2 : Pos} {fl fh : Env → Sto → Res (Option Int)} (ha : PE X a (tD W E fa)) (hl : PO X lo (tDO W E fl)) (hh : PO X hi (tDO W E fh)) :
    PE X (.Subscript a (.Slice lo hi none p2) pos) (tD W E fun ρ S => (fa ρ S).bind fun x S => (fl ρ S).bind fun l S => (fh ρ S).bind fun h S => slice x l h S) :=
  peI (pe_slice (sl_str.or (sl_tup.or sl_list)) ha hl hh) fun σ H Q ⟨α, F, ρ, S, s, er, p⟩ => ⟨α, F, ρ, S, s, er, (Post.bind p).imp fun v H1 ⟨α1, F1, x, S1, x1, s1, r1, p1⟩ =>
    ⟨α1, F1, ρ, S1, s1, er.ext x1, (Post.bind (Rel := RelE) p1).imp fun l H2 ⟨α2, F2, l', S2, x2, s2, r2, p2⟩ => ⟨α2, F2, ρ, S2, s2, (er.ext x1).ext x2, (Post.bind (Rel := RelE) p2).imp fun h H3 ⟨α3, F3, h', S3, x3, s3, r3, p3⟩ => by
      cases (show l' = l from r2)
      cases (show h' = h from r3)
      exact sl_of hK s3 (r1.ext (x2.trans x3)) p3⟩⟩⟩
end
end Z
end

section
set_option maxHeartbeats 1000000
/-! Z10: built-in functions and methods. -/
namespace Z
open PySem L2

section
variable {X : Cx} {W : Wd} {E : XK} {a b c e : Expr} {es : List Expr} {pos : Pos} {fa fb fc : Env → Sto → Res Vl}
variable {α : Nat → Addr} {F : Hp} {S : Sto} {H : Hp} {Q : VK} {x y : Vl} {v u : V}

theorem VlRs.one {x : Vl} {vs : List V} {N : Nat} (r : VlRs W α F N [x] vs) : ∃ v, vs = [v] ∧ VlR W α F N x v := by
  cases r with
  | cons h t => cases t; exact ⟨_, rfl, h⟩
theorem VlRs.two {x y : Vl} {vs : List V} {N : Nat} (r : VlRs W α F N [x, y] vs) : ∃ v u, vs = [v, u] ∧ VlR W α F N x v ∧ VlR W α F N y u := by
  cases r with
  | cons h t =>
    obtain ⟨u, rfl, r2⟩ := t.one
    exact ⟨_, _, rfl, h, r2⟩

/-! ### one by one -/
theorem len_of (hK : W.K = X.K) (s : Sr W α F S H) (r : VlR W α F S.length x v) (p : Post W E (VlX W) α F S H (bLen x S) Q) : ∃ n : Nat, LenV X.K v H n ∧ Q (.int n) H := by
  unfold bLen at p
  cases e : seqOf x S with
  | some xs =>
    rw [e] at p
    obtain ⟨a, vs, rfl, q, rr⟩ := r.seq s e
    rw [hK] at q
    refine ⟨xs.length, ?_, p.here s rfl⟩
    rcases q with q | q
    · exact .inl ⟨vs, q, rr.length⟩
    · exact .inr ⟨vs, q, rr.length⟩
  | none =>
    rw [e] at p
    cases x with
    | p n => exact p.elim
    | d x =>
      cases x with
      | str z =>
        have p : Post W E (VlX W) α F S H (if decide (z.length ≤ most) then .ok (.d (.int z.length)) S else .bad) Q := p
        by_cases hz : z.length ≤ most
        · rw [if_pos (by simpa using hz)] at p
          cases (show v = V.str ⟨z.toArray⟩ from r)
          exact ⟨z.length, ⟨by rw [str_len, ← most_eq]; exact hz, (str_len z).symm⟩, p.here s rfl⟩
        · rw [if_neg (by simpa using hz)] at p; exact p.elim
      | _ => exact p.elim
theorem abs_of (s : Sr W α F S H) (r : VlR W α F S.length x v) (p : Post W E (VlX W) α F S H (bAbs x S) Q) : ∃ i, v = .int i ∧ Q (.int (if i < 0 then -i else i)) H := by
  cases x with
  | p n => exact p.elim
  | d x =>
    cases x with
    | int i => exact ⟨i, r, p.here s rfl⟩
    | _ => exact p.elim
theorem int_of (s : Sr W α F S H) (r : VlR W α F S.length x v) (p : Post W E (VlX W) α F S H (bInt x S) Q) : (∃ i, v = .int i ∧ Q (.int i) H) ∨ ∃ k, v = .bl k ∧ Q (.int (if k then 1 else 0)) H := by
  cases x with
  | p n => exact p.elim
  | d x =>
    cases x with
    | int i => exact .inl ⟨i, r, p.here s rfl⟩
    | bl i => exact .inr ⟨i, r, p.here s rfl⟩
    | _ => exact p.elim
theorem list_of (hK : W.K = X.K) {cell : Bool} (s : Sr W α F S H) (r : VlR W α F S.length x v) (p : Post W E (VlX W) α F S H (bList cell x S) Q) : ∃ q ys, v = .ref q ∧ (SqL X.K H q ys ∨ SqT X.K H q ys) ∧ ∀ l, H l = none → Q (.ref l) (upd H l (.lst ys)) := by
  unfold bList at p
  cases e : seqOf x S with
  | none => rw [e] at p; exact p.elim
  | some xs =>
    rw [e] at p
    obtain ⟨a, vs, rfl, q, rr⟩ := r.seq s e
    rw [hK] at q
    exact ⟨a, vs, rfl, q, (fin_new p s rr).2⟩
theorem tuple_of (hK : W.K = X.K) (s : Sr W α F S H) (r : VlR W α F S.length x v) (p : Post W E (VlX W) α F S H (bTuple x S) Q) :
    ∃ q ys, v = .ref q ∧ ((SqL X.K H q ys ∧ ∀ l, H l = none → Q (.ref l) (upd H l (.tup ys))) ∨ (SqT X.K H q ys ∧ Q (.ref q) H)) := by
  have lst : ∀ {x : Vl}, VlR W α F S.length x v → Post W E (VlX W) α F S H (match listOf x S with
    | some xs => match pures xs with
      | some ds => .ok (.d (.tup ds)) S
      | none => .bad
    | none => .bad) Q → ∃ q ys, v = .ref q ∧ ((SqL X.K H q ys ∧ ∀ l, H l = none → Q (.ref l) (upd H l (.tup ys))) ∨ (SqT X.K H q ys ∧ Q (.ref q) H)) := fun {x} r p => by
    cases ex : listOf x S with
    | none => rw [ex] at p; exact p.elim
    | some xs =>
      rw [ex] at p
      simp only at p
      cases px : pures xs with
      | none => rw [px] at p; exact p.elim
      | some ds =>
        rw [px] at p
        obtain ⟨a, vs, rfl, q1, r1⟩ := r.list s ex
        exact ⟨a, vs, rfl, .inl ⟨.of q1, fun l hl => fin_tup p s (r1.pures px) hl⟩⟩
  cases x with
  | p n => exact lst r p
  | d x =>
    cases x with
    | tup ds =>
      obtain ⟨a, vs, rfl, q, rr⟩ := (show Rp W F (.tup ds) v from r)
      exact ⟨a, vs, rfl, .inr ⟨by rw [← hK]; exact s.sub.sqT q, p.here s ⟨a, vs, rfl, q, rr⟩⟩⟩
    | _ => exact lst r p
theorem ofL {τ : Type} {f : List D → Option τ} {g : τ → D} {toV : τ → List V} (hf : ∀ {F : Hp} {ds : List D} {t : τ} {vs : List V}, f ds = some t → Rps W F ds vs → vs = toV t)
    (s : Sr W α F S H) (r : VlR W α F S.length x v) (p : Post W E (VlX W) α F S H (bOf f g x S) Q) : ∃ a t, v = .ref a ∧ H a = some (.lst (toV t)) ∧ Post W E (VlX W) α F S H (.ok (.d (g t)) S) Q := by
  unfold bOf at p
  cases ex : listOf x S with
  | none => rw [ex] at p; exact p.elim
  | some xs =>
    rw [ex] at p
    simp only at p
    cases px : pures xs with
    | none => rw [px] at p; exact p.elim
    | some ds =>
      rw [px] at p
      simp only at p
      cases hd : f ds with
      | none => rw [hd] at p; exact p.elim
      | some t =>
        rw [hd] at p
        obtain ⟨a, vs, rfl, q1, r1⟩ := r.list s ex
        have := hf hd (r1.pures px)
        subst this
        exact ⟨a, t, rfl, q1, p⟩
theorem intL_v : ∀ {ds : List D} {ns : List Int} {vs : List V}, intL ds = some ns → Rps W F ds vs → vs = ns.map V.int
  | [], ns, vs, h, r => by cases h; exact r
  | d :: ds, ns, vs, h, r => by
    obtain ⟨v, q, e, r1, r2⟩ := r
    subst e
    cases d <;> simp [intL] at h
    obtain ⟨m, hm, rfl⟩ := h
    rw [List.map_cons, ← intL_v hm r2, show v = _ from r1]
theorem boolL_v : ∀ {ds : List D} {ns : List Bool} {vs : List V}, boolL ds = some ns → Rps W F ds vs → vs = ns.map V.bl
  | [], ns, vs, h, r => by cases h; exact r
  | d :: ds, ns, vs, h, r => by
    obtain ⟨v, q, e, r1, r2⟩ := r
    subst e
    cases d <;> simp [boolL] at h
    obtain ⟨m, hm, rfl⟩ := h
    rw [List.map_cons, ← boolL_v hm r2, show v = _ from r1]
theorem textL_v : ∀ {ds : List D} {ns : List Tx} {vs : List V}, textL ds = some ns → Rps W F ds vs → vs = (ns.map mk).map V.str
  | [], ns, vs, h, r => by cases h; exact r
  | d :: ds, ns, vs, h, r => by
    obtain ⟨v, q, e, r1, r2⟩ := r
    subst e
    cases d <;> simp [textL] at h
    obtain ⟨m, hm, rfl⟩ := h
    rw [List.map_cons, List.map_cons, ← textL_v hm r2, show v = _ from r1]
    rfl

/-! ### by their names -/
theorem CallR.imp {f : Value} {r r' : List V → Hp → VK → Prop} (h : CallR X f r) (k : ∀ x H Q, r' x H Q → r x H Q) : CallR X f r' := fun pins s σ H xs us Q I rx q => h pins s σ H xs us Q I rx (k _ _ _ q)
/-- what a built-in of this name is -/
def IsFn (x : Str) (f : Value) : Prop := (∃ id, f = .builtin id ∧ bootBuiltins x = some (.builtin id)) ∨ ∃ T, f = .type T ∧ bootBuiltins x = some (.type T)
theorem cBf_cases {x : Str} {b : Bf} (h : cBf x = some b) : (x = "len" ∧ b = .len) ∨ (x = "abs" ∧ b = .abs) ∨ (x = "int" ∧ b = .int) ∨ (x = "list" ∧ b = .list) ∨ (x = "tuple" ∧ b = .tuple) ∨ (x = "sum" ∧ b = .sum) ∨ (x = "min" ∧ b = .min) ∨ (x = "max" ∧ b = .max) ∨ (x = "any" ∧ b = .any) ∨ (x = "all" ∧ b = .all) ∨ (x = "sorted" ∧ b = .sorted) := by
  unfold cBf at h
  repeat' split at h
  all_goals first
    | (cases h; done)
    | (rename_i hx; have hx := beq_iff_eq.mp hx; cases h; subst hx; simp)
/-- sorted(l), data that are alike -/
def rSortedD (K : PySem.W.Frag) : List V → Hp → VK → Prop := fun vs H Q => ∃ (a : Addr) (bs : List (V × PyData)), vs = [V.ref a] ∧ SqL K H a (bs.map (·.1)) ∧ (∀ p ∈ bs, Dp K H p.1 p.2 ∧ SeqAt.shaped p.2 = true) ∧ PySem.W.AllAlike (bs.map (·.2)) ∧ PySem.W.Sortable (bs.map (·.2)) ∧
  ∀ p, H p = none → Q (.ref p) (upd H p (.lst ((bs.mergeSort fun a b => !PySem.W.dataLt b.2 a.2).map (·.1))))
theorem vals_each {bs : List (V × PyData)} : ∀ {us : List Value}, Vals (bs.map (·.1)) us → PySem.W.EachIs (fun v b => RelV b.1 v) us bs := by
  induction bs with
  | nil => intro us r; cases r; exact .nil
  | cons b bs ih =>
    intro us r
    cases r with
    | cons h t => exact .cons h (ih t)
theorem each_vals {bs : List (V × PyData)} : ∀ {us : List Value}, PySem.W.EachIs (fun v b => RelV b.1 v) us bs → Vals (bs.map (·.1)) us := by
  induction bs with
  | nil => intro us r; cases r; exact .nil
  | cons b bs ih =>
    intro us r
    cases r with
    | cons h t => exact .cons h (ih t)
theorem cr_sortedD (hu : X.A.units + 100 < cLine) : CallR X (.builtin "sorted") (rSortedD X.K) := by
  intro pins s σ H vs us Q I r h
  obtain ⟨a, bs, rfl, hs, hd, hal, hk, q⟩ := h
  obtain ⟨its, rv, hl, hz⟩ := I.list hs
  rw [Vals.ref1 r]
  have e := vals_each rv
  have hzb : bs.length ≤ sizeLine := by rw [List.length_map] at hz; exact hz
  have er : PySem.W.EachIs (fun v b => ∃ as, Reads s.heap v b.2 as) its bs := by
    have key : ∀ {us : List Value} {cs : List (V × PyData)}, PySem.W.EachIs (fun v b => RelV b.1 v) us cs → (∀ p ∈ cs, Dp X.K H p.1 p.2) → PySem.W.EachIs (fun v b => ∃ as, Reads s.heap v b.2 as) us cs := by
      intro us cs e
      induction e with
      | nil => intro _; exact .nil
      | cons h t ih => exact fun hd => .cons (Dp.reads I _ _ _ (hd _ (List.mem_cons_self ..)) h) (ih fun p hp => hd p (List.mem_cons_of_mem _ hp))
    exact key e fun p hp => (hd p hp).1
  refine PySem.W.sorted_data (enc := fun b : V × PyData => b.2) hl.isList e er hal hk hzb (fun b hb => ?_) fun out h1 h2 => ?_
  · have := SeqAt.depth_of_shaped (hd b hb).2
    omega
  · obtain ⟨ep, he'⟩ := PyProof.Rows.sortedAll_at s.heap its out.toArray
    have hv := each_vals h2
    have hlen : ((bs.mergeSort (PySem.W.dataLe false fun b : V × PyData => b.2)).map (·.1)).length ≤ sizeLine := by rw [List.length_map, List.length_mergeSort]; exact hzb
    refine ⟨.ref _, upd H (s.heap.objs.size + 1) (.lst ((bs.mergeSort (PySem.W.dataLe false fun b : V × PyData => b.2)).map (·.1))), I.laid (t' := s.toks) (fun _ _ => PyProof.Rows.sortedAll_old) (Nat.le_succ _) ⟨hlen, out, ep, hv, he'⟩, rfl, ?_⟩
    have := q (s.heap.objs.size + 1) (I.hok.fresh (Nat.le_succ _))
    rw [PySem.W.dataLe_eq]
    exact this
theorem zip_rps {F : Hp} : ∀ {ds : List D} {vs : List V}, Rps W F ds vs → ∃ ps : List (D × V), ds = ps.map (·.1) ∧ vs = ps.map (·.2) ∧ ∀ p ∈ ps, Rp W F p.1 p.2
  | [], vs, r => by cases (show vs = [] from r); exact ⟨[], rfl, rfl, fun _ h => nomatch h⟩
  | d :: ds, vs, r => by
    obtain ⟨v, q, e, r1, r2⟩ := r
    obtain ⟨ps, e1, e2, h⟩ := zip_rps r2
    refine ⟨(d, v) :: ps, by rw [List.map_cons, ← e1], by rw [e, List.map_cons, ← e2], fun p hp => ?_⟩
    rcases List.mem_cons.mp hp with rfl | hp
    · exact r1
    · exact h p hp
theorem zip_vls {α : Nat → Addr} {F : Hp} {N : Nat} : ∀ {ps : List (D × V)}, (∀ p ∈ ps, Rp W F p.1 p.2) → VlRs W α F N ((ps.map (·.1)).map .d) (ps.map (·.2))
  | [], _ => .nil
  | p :: ps, h => .cons (h p (List.mem_cons_self ..)) (zip_vls fun q hq => h q (List.mem_cons_of_mem _ hq))
theorem sorted_of (hK : W.K = X.K) {cell : Bool} (s : Sr W α F S H) (r : VlR W α F S.length x v) (p : Post W E (VlX W) α F S H (bSorted cell x S) Q) : rSortedD X.K [v] H Q := by
  unfold bSorted at p
  cases ex : listOf x S with
  | none => rw [ex] at p; exact p.elim
  | some xs =>
    rw [ex] at p
    simp only at p
    cases px : pures xs with
    | none => rw [px] at p; exact p.elim
    | some ds =>
      rw [px] at p
      simp only at p
      by_cases hz : sortOk ds = true
      · rw [if_pos hz] at p
        unfold sortOk at hz
        rw [Bool.and_eq_true, List.all_eq_true] at hz
        obtain ⟨hz1, hz2⟩ := hz
        have hz1 : ∀ a ∈ ds, isData 64 a = true ∧ ∀ b ∈ ds, alikeD a b = true := fun a ha => by
          have := hz1 a ha
          rw [Bool.and_eq_true, List.all_eq_true] at this
          exact this
        obtain ⟨a, vs, rfl, q1, r1⟩ := r.list s ex
        obtain ⟨ps, rfl, rfl, hp⟩ := zip_rps (r1.pures px)
        have mem : ∀ {q : D × V}, q ∈ ps → q.1 ∈ ps.map (·.1) := fun h => List.mem_map.mpr ⟨_, h, rfl⟩
        refine ⟨a, ps.map fun q => (q.2, toPy q.1), rfl, ?_, fun b hb => ?_, fun d hd d' hd' => ?_, ?_, fun l hl => ?_⟩
        · have : (ps.map fun q : D × V => (q.2, toPy q.1)).map (·.1) = ps.map (·.2) := by rw [List.map_map]; rfl
          rw [this]
          exact .of q1
        · obtain ⟨q, hq, rfl⟩ := List.mem_map.mp hb
          have := (hz1 q.1 (mem hq)).1
          exact ⟨dp_of hK s.sub 64 _ _ this (hp q hq), shaped_of this⟩
        · obtain ⟨b, hb, rfl⟩ := List.mem_map.mp hd
          obtain ⟨b', hb', rfl⟩ := List.mem_map.mp hd'
          obtain ⟨q, hq, rfl⟩ := List.mem_map.mp hb
          obtain ⟨q', hq', rfl⟩ := List.mem_map.mp hb'
          exact (hz1 q.1 (mem hq)).2 q'.1 (mem hq')
        · rw [Bool.or_eq_true, List.all_eq_true, List.all_eq_true] at hz2
          rcases hz2 with h | h
          · refine .inl fun d hd => ?_
            obtain ⟨b, hb, rfl⟩ := List.mem_map.mp hd
            obtain ⟨q, hq, rfl⟩ := List.mem_map.mp hb
            have := h q.1 (mem hq)
            obtain ⟨d, w⟩ := q
            cases d with
            | tup ds =>
              cases ds with
              | nil => cases this
              | cons y ys => exact ⟨toPy y, toPys ys, rfl⟩
            | _ => cases this
          · refine .inr fun d hd => ?_
            obtain ⟨b, hb, rfl⟩ := List.mem_map.mp hd
            obtain ⟨q, hq, rfl⟩ := List.mem_map.mp hb
            have h1 := h q.1 (mem hq)
            have h2 := (hz1 q.1 (mem hq)).1
            obtain ⟨d, w⟩ := q
            cases d <;> first | (cases h1; done) | (cases h2; done) | (refine ⟨(fun z => nomatch z), (fun _ z => nomatch z)⟩)
        · have e1 : (ps.map (·.1)).mergeSort leDt = (ps.mergeSort fun a b => leDt a.1 b.1).map (·.1) := (List.map_mergeSort (f := fun q : D × V => q.1) (r := fun a b => leDt a.1 b.1) (s := leDt) (l := ps) fun _ _ _ _ => rfl).symm
          have e2 : ((ps.map fun q : D × V => (q.2, toPy q.1)).mergeSort fun a b => !PySem.W.dataLt b.2 a.2) = (ps.mergeSort fun a b => leDt a.1 b.1).map fun q => (q.2, toPy q.1) := (List.map_mergeSort (f := fun q : D × V => (q.2, toPy q.1)) (r := fun a b => leDt a.1 b.1) (s := fun a b => !PySem.W.dataLt b.2 a.2) (l := ps) fun _ _ _ _ => rfl).symm
          rw [e1] at p
          have := (fin_new p s (zip_vls fun q hq => hp q (List.mem_mergeSort.mp hq))).2 l hl
          rw [e2, List.map_map]
          exact this
      · rw [if_neg hz] at p
        exact p.elim
theorem bf_rule (hK : W.K = X.K) (hu : X.A.units + 100 < cLine) (hc : X.calm = true) {x : Str} {b : Bf} (h : cBf x = some b) (cell : Bool) : ∃ (f : Value) (r : List V → Hp → VK → Prop), IsFn x f ∧ CallR X f r ∧
    ∀ {α F S H as vs} {Q : VK}, Sr W α F S H → VlRs W α F S.length as vs → Post W E (VlX W) α F S H (builtin b cell as S) Q → r vs H Q := by
  have un : ∀ {f : Value} {r : V → Hp → VK → Prop}, IsFn x f → CallR X f (fun vs H Q => ∃ v, vs = [v] ∧ r v H Q) → (∀ {α F S H w v} {Q : VK}, Sr W α F S H → VlR W α F S.length w v → Post W E (VlX W) α F S H (builtin b cell [w] S) Q → r v H Q) →
      (∀ S as, (∀ w, as ≠ [w]) → builtin b cell as S = .bad) → ∃ (f : Value) (r : List V → Hp → VK → Prop), IsFn x f ∧ CallR X f r ∧
      ∀ {α F S H as vs} {Q : VK}, Sr W α F S H → VlRs W α F S.length as vs → Post W E (VlX W) α F S H (builtin b cell as S) Q → r vs H Q := fun {f r} h1 h2 h3 h4 => by
    refine ⟨f, _, h1, h2, fun {α F S H as vs Q} s rs p => ?_⟩
    by_cases hw : ∃ w, as = [w]
    · obtain ⟨w, rfl⟩ := hw
      obtain ⟨v, rfl, r1⟩ := rs.one
      exact ⟨v, rfl, h3 s r1 p⟩
    · rw [h4 S as fun w e => hw ⟨w, e⟩] at p
      exact p.elim
  have nope : ∀ {b : Bf} {S : Sto} {as : List Vl}, (∀ w, as ≠ [w]) → (b ≠ .min ∧ b ≠ .max) → builtin b cell as S = .bad := fun {b S as} h hb => by
    match as, h with
    | [], _ => rfl
    | [w], h => exact absurd rfl (h w)
    | [v, w], _ => cases b <;> first | rfl | (exact absurd rfl hb.1) | (exact absurd rfl hb.2)
    | _ :: _ :: _ :: _, _ => rfl
  have two2 : ∀ {f : Value} {g : Int → Int → Int}, IsFn x f → CallR X f (fun vs H Q => ∃ i j, vs = [.int i, .int j] ∧ Q (.int (g i j)) H) → (∀ S v w, builtin b cell [v, w] S = opI (fun _ _ => true) g v w S) →
      (∀ S as, (∀ v w, as ≠ [v, w]) → builtin b cell as S = .bad) → ∃ (f : Value) (r : List V → Hp → VK → Prop), IsFn x f ∧ CallR X f r ∧
      ∀ {α F S H as vs} {Q : VK}, Sr W α F S H → VlRs W α F S.length as vs → Post W E (VlX W) α F S H (builtin b cell as S) Q → r vs H Q := fun {f g} h1 h2 h3 h4 => by
    refine ⟨f, _, h1, h2, fun {α F S H as vs Q} s rs p => ?_⟩
    by_cases hw : ∃ v w, as = [v, w]
    · obtain ⟨v, w, rfl⟩ := hw
      obtain ⟨v', w', rfl, r1, r2⟩ := rs.two
      rw [h3] at p
      obtain ⟨i, j, rfl, rfl, _, q⟩ := bin_int (C := fun _ _ => True) (fun _ _ _ => trivial) s r1 r2 p
      exact ⟨i, j, rfl, q⟩
    · rw [h4 S as fun v w e => hw ⟨v, w, e⟩] at p
      exact p.elim
  have nope2 : ∀ {b : Bf} {S : Sto} {as : List Vl}, (∀ v w, as ≠ [v, w]) → (b = .min ∨ b = .max) → builtin b cell as S = .bad := fun {b S as} h hb => by
    match as, h with
    | [], _ => rfl
    | [w], _ => rcases hb with rfl | rfl <;> rfl
    | [v, w], h => exact absurd rfl (h v w)
    | _ :: _ :: _ :: _, _ => rfl
  rcases cBf_cases h with ⟨rfl, rfl⟩ | ⟨rfl, rfl⟩ | ⟨rfl, rfl⟩ | ⟨rfl, rfl⟩ | ⟨rfl, rfl⟩ | ⟨rfl, rfl⟩ | ⟨rfl, rfl⟩ | ⟨rfl, rfl⟩ | ⟨rfl, rfl⟩ | ⟨rfl, rfl⟩ | ⟨rfl, rfl⟩
  · exact un (f := .builtin "len") (r := fun v H Q => ∃ n : Nat, LenV X.K v H n ∧ Q (.int n) H) (.inl ⟨_, rfl, by decide +kernel⟩) (CallR.imp call_len fun xs H Q ⟨v, e, n, l, q⟩ => ⟨v, n, e, l, q⟩) (fun s r p => len_of hK s r p) fun S as h => nope h ⟨by decide, by decide⟩
  · exact un (f := .builtin "abs") (r := fun v H Q => ∃ i, v = .int i ∧ Q (.int (if i < 0 then -i else i)) H) (.inl ⟨_, rfl, by decide +kernel⟩) (CallR.imp call_abs fun xs H Q ⟨v, e, i, l, q⟩ => ⟨i, by rw [e, l], q⟩) (fun s r p => abs_of s r p) fun S as h => nope h ⟨by decide, by decide⟩
  · exact un (f := .type "int") (r := fun v H Q => (∃ i, v = .int i ∧ Q (.int i) H) ∨ ∃ k, v = .bl k ∧ Q (.int (if k then 1 else 0)) H) (.inr ⟨_, rfl, by decide +kernel⟩) (CallR.imp call_int1 fun xs H Q ⟨v, e, h⟩ => by
      rcases h with ⟨i, l, q⟩ | ⟨i, l, q⟩
      · exact .inl ⟨i, by rw [e, l], q⟩
      · exact .inr ⟨i, by rw [e, l], q⟩) (fun s r p => int_of s r p) fun S as h => nope h ⟨by decide, by decide⟩
  · exact un (f := .type "list") (r := fun v H Q => ∃ q ys, v = .ref q ∧ (SqL X.K H q ys ∨ SqT X.K H q ys) ∧ ∀ l, H l = none → Q (.ref l) (upd H l (.lst ys))) (.inr ⟨_, rfl, by decide +kernel⟩) (CallR.imp call_list_of fun xs H Q ⟨v, e, a, ys, l, q⟩ => ⟨a, ys, by rw [e, l], q⟩) (fun s r p => list_of hK s r p) fun S as h => nope h ⟨by decide, by decide⟩
  · exact un (f := .type "tuple") (r := fun v H Q => ∃ q ys, v = .ref q ∧ ((SqL X.K H q ys ∧ ∀ l, H l = none → Q (.ref l) (upd H l (.tup ys))) ∨ (SqT X.K H q ys ∧ Q (.ref q) H))) (.inr ⟨_, rfl, by decide +kernel⟩) (CallR.imp call_tuple_of fun xs H Q ⟨v, e, a, ys, l, q⟩ => ⟨a, ys, by rw [e, l], q⟩) (fun s r p => tuple_of hK s r p) fun S as h => nope h ⟨by decide, by decide⟩
  · exact un (f := .builtin "sum") (r := fun v H Q => ∃ (a : Addr) (ns : List Int), v = .ref a ∧ SqL X.K H a (ns.map V.int) ∧ Q (.int ns.sum) H) (.inl ⟨_, rfl, by decide +kernel⟩) (CallR.imp (cr_sum hc) fun xs H Q ⟨v, e, a, ns, l, q1, q2⟩ => ⟨a, ns, by rw [e, l], q1, q2⟩) (fun s r p => by
      obtain ⟨a, t, rfl, q, p⟩ := ofL (toV := fun ns : List Int => ns.map V.int) (fun h r => intL_v h r) s r p
      exact ⟨a, t, rfl, .of q, p.here s rfl⟩) fun S as h => nope h ⟨by decide, by decide⟩
  · exact two2 (f := .builtin "min") (.inl ⟨_, rfl, by decide +kernel⟩) (call_min2 hc) (fun _ _ _ => rfl) fun S as h => nope2 h (.inl rfl)
  · exact two2 (f := .builtin "max") (.inl ⟨_, rfl, by decide +kernel⟩) (call_max2 hc) (fun _ _ _ => rfl) fun S as h => nope2 h (.inr rfl)
  · exact un (f := .builtin "any") (r := fun v H Q => ∃ (a : Addr) (ns : List Bool), v = .ref a ∧ SqL X.K H a (ns.map V.bl) ∧ Q (.bl (ns.any id)) H) (.inl ⟨_, rfl, by decide +kernel⟩) (CallR.imp (cr_any hc) fun xs H Q ⟨v, e, a, ns, l, q1, q2⟩ => ⟨a, ns, by rw [e, l], q1, q2⟩) (fun s r p => by
      obtain ⟨a, t, rfl, q, p⟩ := ofL (toV := fun ns : List Bool => ns.map V.bl) (fun h r => boolL_v h r) s r p
      exact ⟨a, t, rfl, .of q, p.here s rfl⟩) fun S as h => nope h ⟨by decide, by decide⟩
  · exact un (f := .builtin "all") (r := fun v H Q => ∃ (a : Addr) (ns : List Bool), v = .ref a ∧ SqL X.K H a (ns.map V.bl) ∧ Q (.bl (ns.all id)) H) (.inl ⟨_, rfl, by decide +kernel⟩) (CallR.imp (cr_all hc) fun xs H Q ⟨v, e, a, ns, l, q1, q2⟩ => ⟨a, ns, by rw [e, l], q1, q2⟩) (fun s r p => by
      obtain ⟨a, t, rfl, q, p⟩ := ofL (toV := fun ns : List Bool => ns.map V.bl) (fun h r => boolL_v h r) s r p
      exact ⟨a, t, rfl, .of q, p.here s rfl⟩) fun S as h => nope h ⟨by decide, by decide⟩
  · exact un (f := .builtin "sorted") (r := fun v H Q => rSortedD X.K [v] H Q) (.inl ⟨_, rfl, by decide +kernel⟩) (CallR.imp (cr_sortedD hu) fun xs H Q ⟨v, e, q⟩ => by rw [e]; exact q) (fun s r p => sorted_of hK s r p) fun S as h => nope h ⟨by decide, by decide⟩

theorem de_bf (hK : W.K = X.K) (hu : X.A.units + 100 < cLine) (hc : X.calm = true) {x : Str} {b : Bf} {cell : Bool} {px : Pos} {fs : Env → Sto → Res (List Vl)} (hb : cBf x = some b) (hg : Gl X x) (hm : X.mg x = none) (hn : x ≠ "__name__") (hd : (x == ("__debug__" : Str)) = false)
    (h1 : notStar e = true) (h2 : es.all notStar = true) (ha : PA X (e :: es) (tDA W E fs)) : PE X (.Call (.Name x px) (e :: es) [] pos) (tD W E fun ρ S => (fs ρ S).bind fun vs S => builtin b cell vs S) := by
  obtain ⟨f, r, hf, hr, k⟩ := bf_rule (E := E) hK hu hc hb cell
  have go : ∀ σ H Q, tD W E (fun ρ S => (fs ρ S).bind fun vs S => builtin b cell vs S) σ H Q → tCB r (tDA W E fs) σ H Q := fun σ H Q ⟨α, F, ρ, S, s, er, p⟩ =>
    ⟨α, F, ρ, S, s, er, (Post.bind (Rel := VlXs W) p).imp fun vs H1 ⟨α1, F1, xs, S1, x1, s1, r1, p1⟩ => k s1 r1 p1⟩
  rcases hf with ⟨id, rfl, hv⟩ | ⟨T, rfl, hv⟩
  · exact peI (pe_callB hr hg hm hv ha hn hd (star_cons h1) (star_none h2)) go
  · exact peI (pe_callTy hr hg hm hv ha hn hd (star_cons h1) (star_none h2)) go

/-! ### isinstance -/
theorem ty_of (hK : W.K = X.K) (s : Sr W α F S H) (r : VlR W α F S.length x v) {ks : List Nat} (h : typeOf x S = some ks) : ∃ T, TyX X.K H v (.type T) ∧ ∀ t n, cTy t = some n → ∃ U, bootBuiltins t = some (.type U) ∧ kitB T U = some (ks.contains n) := by
  have names : ∀ {T : String} {ks : List Nat}, kitB T "int" = some (ks.contains 0) → kitB T "str" = some (ks.contains 1) → kitB T "list" = some (ks.contains 2) → kitB T "tuple" = some (ks.contains 3) → kitB T "bool" = some (ks.contains 4) →
      ∀ t n, cTy t = some n → ∃ U, bootBuiltins t = some (.type U) ∧ kitB T U = some (ks.contains n) := fun {T ks} h0 h1 h2 h3 h4 t n h => by
    unfold cTy at h
    repeat' split at h
    · rename_i hx; have hx := beq_iff_eq.mp hx; cases h; subst hx; exact ⟨"int", by decide +kernel, h0⟩
    · rename_i hx; have hx := beq_iff_eq.mp hx; cases h; subst hx; exact ⟨"str", by decide +kernel, h1⟩
    · rename_i hx; have hx := beq_iff_eq.mp hx; cases h; subst hx; exact ⟨"list", by decide +kernel, h2⟩
    · rename_i hx; have hx := beq_iff_eq.mp hx; cases h; subst hx; exact ⟨"tuple", by decide +kernel, h3⟩
    · rename_i hx; have hx := beq_iff_eq.mp hx; cases h; subst hx; exact ⟨"bool", by decide +kernel, h4⟩
    · cases h
  cases x with
  | p n =>
    obtain ⟨e, hl⟩ := (show v = .ref (α n) ∧ n < S.length from r)
    simp only [typeOf] at h
    cases hn : S[n]? with
    | none => rw [hn] at h; cases h
    | some c =>
      rw [hn] at h
      cases c <;> simp at h
      subst h e
      obtain ⟨vs, hv, rr⟩ := s.cel n _ hn
      exact ⟨"list", .base (.lst hv), names (by decide +kernel) (by decide +kernel) (by decide +kernel) (by decide +kernel) (by decide +kernel)⟩
  | d x =>
    have r : Rp W F x v := r
    cases x <;> simp only [typeOf, Option.some.injEq, reduceCtorEq] at h <;> subst h
    · cases (show v = V.non from r)
      exact ⟨"NoneType", .base .non, names (by decide +kernel) (by decide +kernel) (by decide +kernel) (by decide +kernel) (by decide +kernel)⟩
    · cases (show v = V.bl _ from r)
      exact ⟨"bool", .base (.bl _), names (by decide +kernel) (by decide +kernel) (by decide +kernel) (by decide +kernel) (by decide +kernel)⟩
    · cases (show v = V.int _ from r)
      exact ⟨"int", .base (.int _), names (by decide +kernel) (by decide +kernel) (by decide +kernel) (by decide +kernel) (by decide +kernel)⟩
    · cases (show v = V.str _ from r)
      exact ⟨"str", .base (.str _), names (by decide +kernel) (by decide +kernel) (by decide +kernel) (by decide +kernel) (by decide +kernel)⟩
    · obtain ⟨a, vs, rfl, q, rr⟩ := r
      refine ⟨"tuple", ?_, names (by decide +kernel) (by decide +kernel) (by decide +kernel) (by decide +kernel) (by decide +kernel)⟩
      rw [hK] at q
      rcases q with (q | ⟨o, q⟩) | ⟨o, its, n, q1, q2, _⟩
      · exact .base (.tup (s.sub _ _ q))
      · exact .fTuple (s.sub _ _ q)
      · exact .kTuple q1 q2
    · obtain ⟨a, vs, rfl, q, rr⟩ := r
      exact ⟨"list", .base (.lst (s.sub _ _ q)), names (by decide +kernel) (by decide +kernel) (by decide +kernel) (by decide +kernel) (by decide +kernel)⟩
theorem isi_of (p : Post W E (VlX W) α F S H (bIsi ts x S) Q) : ∃ ks, typeOf x S = some ks ∧ Post W E (VlX W) α F S H (.ok (.d (.bl (ts.any fun t => ks.contains t))) S) Q := by
  unfold bIsi isTypes at p
  cases e : typeOf x S with
  | none => rw [e] at p; exact p.elim
  | some ks => rw [e] at p; exact ⟨ks, rfl, p⟩
theorem cTy_ty {t : Str} {n : Nat} (h : cTy t = some n) : ∃ U, bootBuiltins t = some (.type U) := by
  unfold cTy at h
  repeat' split at h
  · rename_i hx; have hx := beq_iff_eq.mp hx; subst hx; exact ⟨"int", by decide +kernel⟩
  · rename_i hx; have hx := beq_iff_eq.mp hx; subst hx; exact ⟨"str", by decide +kernel⟩
  · rename_i hx; have hx := beq_iff_eq.mp hx; subst hx; exact ⟨"list", by decide +kernel⟩
  · rename_i hx; have hx := beq_iff_eq.mp hx; subst hx; exact ⟨"tuple", by decide +kernel⟩
  · rename_i hx; have hx := beq_iff_eq.mp hx; subst hx; exact ⟨"bool", by decide +kernel⟩
  · cases h
theorem boot_isinstance' : bootBuiltins "isinstance" = some (.builtin "isinstance") := by decide +kernel
theorem de_isi (hK : W.K = X.K) {t : Str} {n : Nat} {p1 p2 : Pos} (ht : cTy t = some n) (hg : Gl X "isinstance") (hm : X.mg "isinstance" = none) (hgt : Gl X t) (hmt : X.mg t = none) (hnt : t ≠ "__name__") (hdt : (t == ("__debug__" : Str)) = false)
    (hs : notStar e = true) (he : PE X e (tD W E fa)) : PE X (.Call (.Name "isinstance" p1) [e, .Name t p2] [] pos) (tD W E fun ρ S => (consF fa nilF ρ S).bind fun vs S => builtin (.isinst [n]) false vs S) := by
  obtain ⟨U, hU⟩ := cTy_ty ht
  have pt : PE X (.Name t p2) (tC (.ty U)) := pe_bltn hgt hmt hU rfl hnt hdt
  refine peI (pe_callB call_isi hg hm boot_isinstance' (pa_cons he (pa_cons pt pa_nil) (star_cons hs)) (by decide) (by decide) (star_cons hs) rfl) fun σ H Q ⟨α, F, ρ, S, s, er, p⟩ => ?_
  have p' : Post W E (VlX W) α F S H ((fa ρ S).bind fun v S => builtin (.isinst [n]) false [v] S) Q := by
    have e : (consF fa nilF ρ S).bind (fun vs S => builtin (.isinst [n]) false vs S) = (fa ρ S).bind fun v S => builtin (.isinst [n]) false [v] S := by
      unfold consF
      cases fa ρ S <;> rfl
    rw [← e]; exact p
  refine ⟨α, F, ρ, S, s, er, (Post.bind p').imp fun v H1 ⟨α1, F1, x, S1, x1, s1, r1, p1⟩ => ?_⟩
  obtain ⟨ks, hk, p2⟩ := isi_of p1
  obtain ⟨T, ty, kt⟩ := ty_of hK s1 r1 hk
  obtain ⟨U', hU', kb⟩ := kt t n ht
  rw [hU] at hU'
  cases hU'
  exact ⟨v, .ty U, .type T, .type U, _, rfl, .ty U, ty, kit_ty kb, by simpa using p2.here s1 rfl⟩
end
end Z
end

section
set_option maxHeartbeats 1000000
/-! Z11: isinstance with several types, methods, what is walked, comprehensions. -/
namespace Z
open PySem L2

section
variable {X : Cx} {W : Wd} {E : XK} {a b c e : Expr} {es : List Expr} {pos : Pos} {fa fb fc : Env → Sto → Res Vl}
variable {α : Nat → Addr} {F : Hp} {S : Sto} {H : Hp} {Q : VK} {x y : Vl} {v u : V}

/-- names of types in a display -/
inductive TyNames (X : Cx) : List Expr → List Nat → Prop
  | nil : TyNames X [] []
  | cons {t : Str} {p : Pos} {n : Nat} {ts : List Expr} {ns : List Nat} : cTy t = some n → Gl X t → X.mg t = none → t ≠ "__name__" → (t == ("__debug__" : Str)) = false → TyNames X ts ns → TyNames X (.Name t p :: ts) (n :: ns)
theorem tys_of {ts : List Expr} {ns : List Nat} (h : TyNames X ts ns) : ∃ us : List String, PA X ts (fun σ H Q => Q (us.map V.ty) H) ∧ us.length = ns.length ∧
    ∀ {T : String} {ks : List Nat}, (∀ t n, cTy t = some n → ∃ U, bootBuiltins t = some (.type U) ∧ kitB T U = some (ks.contains n)) → PySem.W.kitAny X.K (.type T) (us.map Value.type) = some (ns.any fun n => ks.contains n) := by
  induction h with
  | nil => exact ⟨[], pa_nil, rfl, fun _ => rfl⟩
  | @cons t p n ts ns ht hg hm hn hd _ ih =>
    obtain ⟨us, h1, h2, h3⟩ := ih
    obtain ⟨U, hU⟩ := cTy_ty ht
    refine ⟨U :: us, ?_, by simp [h2], fun {T ks} k => ?_⟩
    · have pt : PE X (.Name t p) (tC (.ty U)) := pe_bltn hg hm hU rfl hn hd
      exact pa_cons pt h1 rfl
    · obtain ⟨U', hU', kb⟩ := k t n ht
      rw [hU] at hU'
      cases hU'
      rw [List.map_cons, List.any_cons]
      exact kitAny_cons (kit_ty kb) (fun hb => by rw [hb, Bool.false_or]; exact h3 k) fun hb => by rw [hb, Bool.true_or]
theorem tyNames_star {ts : List Expr} {ns : List Nat} (h : TyNames X ts ns) : ts.all notStar = true := by
  induction h with
  | nil => rfl
  | cons _ _ _ _ _ _ ih => rw [List.all_cons, ih]; rfl
theorem clsVs : ∀ us : List String, Paired ClsV (us.map V.ty) (us.map Value.type)
  | [] => .nil
  | u :: us => .cons (.ty u) (clsVs us)
theorem de_isiT (hK : W.K = X.K) {ts : List Expr} {ns : List Nat} {p1 p2 : Pos} {k : Nat} (hts : TyNames X ts ns) (hl : ns.length ≤ 100) (hg : Gl X "isinstance") (hm : X.mg "isinstance" = none)
    (hs : notStar e = true) (he : PE X e (tD W E fa)) : PE X (.Call (.Name "isinstance" p1) [e, .Tuple ts k p2] [] pos) (tD W E fun ρ S => (consF fa nilF ρ S).bind fun vs S => builtin (.isinst ns) false vs S) := by
  obtain ⟨us, h1, h2, h3⟩ := tys_of hts
  refine peI (pe_callB call_isiT hg hm boot_isinstance' (pa_cons he (pa_cons (pe_tup h1) pa_nil) (star_cons hs)) (by decide) (by decide) (star_cons hs) rfl) fun σ H Q ⟨α, F, ρ, S, s, er, p⟩ => ?_
  have p' : Post W E (VlX W) α F S H ((fa ρ S).bind fun v S => builtin (.isinst ns) false [v] S) Q := by
    have e : (consF fa nilF ρ S).bind (fun vs S => builtin (.isinst ns) false vs S) = (fa ρ S).bind fun v S => builtin (.isinst ns) false [v] S := by
      unfold consF
      cases fa ρ S <;> rfl
    rw [← e]; exact p
  refine ⟨α, F, ρ, S, s, er, (Post.bind p').imp fun v H1 ⟨α1, F1, x, S1, x1, s1, r1, p1⟩ => ?_⟩
  refine ⟨by rw [List.length_map, h2, sizeLine_eq]; omega, fun l hl => ?_⟩
  obtain ⟨ks, hk, p2⟩ := isi_of p1
  obtain ⟨s2, x2⟩ := s1.newF (o := .tup (us.map V.ty)) hl
  obtain ⟨T, ty, kt⟩ := ty_of hK s2 (r1.ext x2) hk
  exact ⟨v, l, us.map V.ty, .type T, us.map Value.type, _, rfl, upd_same, clsVs us, ty, h3 kt, p2 _ α1 _ _ x2 s2 rfl⟩

/-! ### methods -/
theorem append_of (s : Sr W α F S H) (rx : VlR W α F S.length x v) (ry : VlR W α F S.length y u) (p : Post W E (VlX W) α F S H (mAppend x y S) Q) : rAppend v [u] H Q := by
  cases x with
  | d x => exact p.elim
  | p n =>
    obtain ⟨ev, hl⟩ := (show v = .ref (α n) ∧ n < S.length from rx)
    simp only [mAppend] at p
    cases hn : S[n]? with
    | none => rw [hn] at p; exact p.elim
    | some c =>
      rw [hn] at p
      cases c with
      | lst xs =>
        simp only at p
        by_cases hz : xs.length < most
        · rw [if_pos (by simpa using hz)] at p
          obtain ⟨vs, hv, rr⟩ := s.cel n _ hn
          refine ⟨α n, vs, u, ev, rfl, hv, by rw [← rr.length, ← most_eq]; exact hz, ?_⟩
          obtain ⟨s', x'⟩ := s.setC (n := n) (o := .lst (vs ++ [u])) (c := .lst (xs ++ [y])) ⟨_, hn, fun z => nomatch z⟩ ⟨_, upd_same, rr.append (.cons ry .nil)⟩
          exact p _ α F _ x' s' rfl
        · rw [if_neg (by simpa using hz)] at p; exact p.elim
      | _ => exact p.elim
theorem extend_of (s : Sr W α F S H) (rx : VlR W α F S.length x v) (ry : VlR W α F S.length y u) (p : Post W E (VlX W) α F S H (mExtend x y S) Q) : rExtend v [u] H Q := by
  cases x with
  | d x => exact p.elim
  | p n =>
    obtain ⟨ev, hl⟩ := (show v = .ref (α n) ∧ n < S.length from rx)
    simp only [mExtend] at p
    cases hn : S[n]? with
    | none => rw [hn] at p; exact p.elim
    | some c =>
      rw [hn] at p
      cases c with
      | lst xs =>
        simp only at p
        cases ey : listOf y S with
        | none => rw [ey] at p; exact p.elim
        | some ys =>
          rw [ey] at p
          simp only at p
          by_cases hz : xs.length + ys.length ≤ most
          · rw [if_pos (by simpa using hz)] at p
            obtain ⟨vs, hv, rr⟩ := s.cel n _ hn
            obtain ⟨b, us, rfl, q2, r2⟩ := ry.list s ey
            refine ⟨α n, b, vs, us, ev, rfl, hv, q2, by rw [← rr.length, ← r2.length, ← most_eq]; exact hz, ?_⟩
            obtain ⟨s', x'⟩ := s.setC (n := n) (o := .lst (vs ++ us)) (c := .lst (xs ++ ys)) ⟨_, hn, fun z => nomatch z⟩ ⟨_, upd_same, rr.append r2⟩
            exact p _ α F _ x' s' rfl
          · rw [if_neg (by simpa using hz)] at p; exact p.elim
      | _ => exact p.elim
theorem pop_of (s : Sr W α F S H) (rx : VlR W α F S.length x v) (p : Post W E (VlX W) α F S H (mPop x S) Q) : rPop v [] H Q := by
  cases x with
  | d x => exact p.elim
  | p n =>
    obtain ⟨ev, hl⟩ := (show v = .ref (α n) ∧ n < S.length from rx)
    simp only [mPop] at p
    cases hn : S[n]? with
    | none => rw [hn] at p; exact p.elim
    | some c =>
      rw [hn] at p
      cases c with
      | lst xs =>
        simp only at p
        cases e : xs[xs.length - 1]? with
        | none => rw [e] at p; exact p.elim
        | some z =>
          rw [e] at p
          obtain ⟨vs, hv, rr⟩ := s.cel n _ hn
          obtain ⟨w, hw, rw'⟩ := rr.get e
          refine ⟨α n, vs, w, ev, rfl, hv, by rw [← rr.length]; exact hw, ?_⟩
          obtain ⟨s', x'⟩ := s.setC (n := n) (o := .lst vs.dropLast) (c := .lst xs.dropLast) ⟨_, hn, fun z => nomatch z⟩ ⟨_, upd_same, rr.dropLast⟩
          exact p _ α F _ x' s' (rw'.ext x')
      | _ => exact p.elim
abbrev rTx (g : Str → Str → V) : V → List V → Hp → VK → Prop := fun x xs H Q => ∃ a b, x = .str a ∧ xs = [.str b] ∧ Q (g a b) H
theorem tx_of {f : Str → Str → D} {g : Str → Str → V} (h : ∀ F a b, Rp W F (f a b) (g a b)) (s : Sr W α F S H) (rx : VlR W α F S.length x v) (ry : VlR W α F S.length y u) (p : Post W E (VlX W) α F S H (tx1 f x y S) Q) : rTx g v [u] H Q := by
  cases x with
  | p n => exact p.elim
  | d x =>
    cases x with
    | str a =>
      cases y with
      | p n => exact p.elim
      | d y =>
        cases y with
        | str b =>
          cases (show v = V.str ⟨a.toArray⟩ from rx)
          cases (show u = V.str ⟨b.toArray⟩ from ry)
          exact ⟨_, _, rfl, rfl, p.here s (h F _ _)⟩
        | _ => exact p.elim
    | _ => exact p.elim
theorem un_mk (x : Str) : (⟨(un x).toArray⟩ : Str) = x := by unfold un; simp
theorem mk_lens (ts : List Tx) : ((ts.map mk).map fun x => x.length).sum = (ts.map List.length).sum := by
  rw [List.map_map]
  exact congrArg List.sum (List.map_congr_left fun t _ => str_len t)
theorem join_of (hK : W.K = X.K) (s : Sr W α F S H) (rx : VlR W α F S.length x v) (ry : VlR W α F S.length y u) (p : Post W E (VlX W) α F S H (mJoin x y S) Q) :
    ∃ a p, ∃ ys : List Str, v = .str a ∧ [u] = [.ref p] ∧ (SqL X.K H p (ys.map V.str) ∨ SqT X.K H p (ys.map V.str)) ∧ (ys.map (·.length)).sum + ys.length * a.length ≤ 16777216 ∧ Q (.str (Txt.join a ys)) H := by
  cases x with
  | p n => exact p.elim
  | d x =>
    cases x with
    | str sep =>
      cases (show v = V.str ⟨sep.toArray⟩ from rx)
      simp only [mJoin] at p
      cases ex : listOf y S with
      | none => rw [ex] at p; exact p.elim
      | some xs =>
        rw [ex] at p
        simp only at p
        cases px : pures xs with
        | none => rw [px] at p; exact p.elim
        | some ds =>
          rw [px] at p
          simp only at p
          cases hd : textL ds with
          | none => rw [hd] at p; exact p.elim
          | some ts =>
            rw [hd] at p
            simp only at p
            by_cases hz : (ts.map List.length).sum + ts.length * sep.length ≤ most
            · rw [if_pos (by simpa using hz)] at p
              obtain ⟨a, vs, rfl, q1, r1⟩ := ry.list s ex
              have := textL_v hd (r1.pures px)
              subst this
              refine ⟨⟨sep.toArray⟩, a, ts.map mk, rfl, rfl, .inl (.of q1), ?_, ?_⟩
              · rw [mk_lens, List.length_map, str_len]
                exact hz
              · have q := p.here s (w := .str (Txt.join (mk sep) (ts.map mk))) (by show V.str _ = V.str _; rw [un_mk])
                exact q
            · rw [if_neg (by simpa using hz)] at p; exact p.elim
    | _ => exact p.elim
theorem ty_list (hK : W.K = X.K) (s : Sr W α F S H) (rx : VlR W α F S.length x v) (h : (listOf x S).isSome = true) : tyV X.K "list" v H := by
  cases e : listOf x S with
  | none => rw [e] at h; cases h
  | some xs =>
    obtain ⟨a, vs, rfl, q1, r1⟩ := rx.list s e
    exact .inl ⟨rfl, vs, .of q1⟩
theorem ty_str (rx : VlR W α F S.length x v) (h : isStr x = true) : tyV X.K "str" v H := by
  cases x with
  | p n => cases h
  | d x =>
    cases x with
    | str a => cases (show v = V.str ⟨a.toArray⟩ from rx); rfl
    | _ => cases h
/-- what a method of this name is, of one argument -/
structure MtFact (X : Cx) (W : Wd) (E : XK) (m : Str) (b : Bm) (n : Nat) : Prop where
  ex : ∃ (T id : String) (r : V → List V → Hp → VK → Prop), PlainAttrs T ∧ Slot T m id ∧ PySem.typeOf (.builtin id) = pure (.type "method_descriptor") ∧ MtR X id r ∧
    (∀ {α F S H x v}, Sr W α F S H → VlR W α F S.length x v → bmTy b x S = true → tyV X.K T v H) ∧
    ∀ {α F S H x v as us} {Q : VK}, Sr W α F S H → VlR W α F S.length x v → VlRs W α F S.length as us → as.length = n → Post W E (VlX W) α F S H (method b x as S) Q → r v us H Q
/-- index is a list's or a text's -/
def isIdx : Bm → Bool
  | .index => true
  | _ => false
theorem cBm1_cases {x : Str} {b : Bm} (h : cBm1 x = some b) : (x = "append" ∧ b = .append) ∨ (x = "extend" ∧ b = .extend) ∨ (x = "join" ∧ b = .join) ∨ (x = "count" ∧ b = .count) ∨ (x = "rfind" ∧ b = .rfind) ∨ (x = "startswith" ∧ b = .startswith) ∨ (x = "index" ∧ b = .index) := by
  unfold cBm1 at h
  repeat' split at h
  all_goals first
    | (cases h; done)
    | (rename_i hx; have hx := beq_iff_eq.mp hx; cases h; subst hx; simp)
theorem toPys_get : ∀ (ds : List D) (j : Nat), (toPys ds)[j]? = (ds[j]?).map toPy
  | [], j => by simp [toPys]
  | d :: ds, 0 => by simp [toPys]
  | d :: ds, j + 1 => by simp [toPys, toPys_get ds j]
theorem datas_mem {n : Nat} : ∀ {ds : List D}, isDatas n ds = true → ∀ d ∈ ds, isData n d = true
  | [], _, _, h => nomatch h
  | d :: ds, h, e, he => by
    have h : (isData n d && isDatas n ds) = true := by rw [isDatas] at h; exact h
    rw [Bool.and_eq_true] at h
    rcases List.mem_cons.mp he with rfl | he
    · exact h.1
    · exact datas_mem h.2 e he
theorem index_of' (hK : W.K = X.K) (s : Sr W α F S H) (rx : VlR W α F S.length x v) (ry : VlR W α F S.length y u) (p : Post W E (VlX W) α F S H (mIndex x y S) Q) : rIndexD X.K v [u] H Q := by
  unfold mIndex at p
  cases y with
  | p n => split at p <;> first | exact p.elim | (rename_i h; cases h)
  | d y =>
    cases ex : listOf x S with
    | none => rw [ex] at p; exact p.elim
    | some xs =>
      rw [ex] at p
      simp only at p
      cases px : pures xs with
      | none => rw [px] at p; exact p.elim
      | some ds =>
        rw [px] at p
        simp only at p
        by_cases hz : (isData 64 (.lst ds) && isData 64 y) = true
        · rw [if_pos hz] at p
          rw [Bool.and_eq_true] at hz
          cases hj : ds.findIdx? (fun e => eqv e y) with
          | none => rw [hj] at p; exact p.elim
          | some j =>
            rw [hj] at p
            obtain ⟨a, vs, rfl, q1, r1⟩ := rx.list s ex
            have hD : isDatas 63 ds = true := by have := hz.1; rw [isData] at this; exact this
            obtain ⟨hl, hp, hn⟩ := List.findIdx?_eq_some_iff_getElem.mp hj
            refine ⟨a, u, toPy y, toPys ds, j, toPy ds[j], rfl, rfl, .lst (.of q1) (dps_of hK s.sub 63 _ _ hD (r1.pures px)), dp_of hK s.sub 64 _ _ hz.2 ry, shaped_of hz.1, shaped_of hz.2, ?_, ?_, fun m z' hm hz' => ?_, p.here s rfl⟩
            · rw [toPys_get, List.getElem?_eq_getElem hl]; rfl
            · rw [eqv_py 63 64 _ _ (datas_mem hD _ (List.getElem_mem hl)) hz.2]; exact hp
            · have hml : m < ds.length := by omega
              rw [toPys_get, List.getElem?_eq_getElem hml] at hz'
              have hz' : toPy ds[m] = z' := Option.some.inj hz'
              rw [← hz', eqv_py 63 64 _ _ (datas_mem hD _ (List.getElem_mem hml)) hz.2]
              have := hn m hm
              simpa using this
        · rw [if_neg hz] at p
          exact p.elim
theorem bm_rule1 (hK : W.K = X.K) (hu : X.A.units + 100 < cLine) {m : Str} {b : Bm} (h : cBm1 m = some b) (hi : isIdx b = false) : MtFact X W E m b 1 := by
  have one : ∀ {as : List Vl} {us : List V} {N : Nat} {α : Nat → Addr} {F : Hp}, VlRs W α F N as us → as.length = 1 → ∃ y u, as = [y] ∧ us = [u] ∧ VlR W α F N y u := fun {as us N α F} r h => by
    match as, h with
    | [y], _ =>
      obtain ⟨u, rfl, q⟩ := r.one
      exact ⟨y, u, rfl, rfl, q⟩
  rcases cBm1_cases h with ⟨rfl, rfl⟩ | ⟨rfl, rfl⟩ | ⟨rfl, rfl⟩ | ⟨rfl, rfl⟩ | ⟨rfl, rfl⟩ | ⟨rfl, rfl⟩ | ⟨rfl, rfl⟩
  · exact ⟨⟨_, _, _, PySem.F.plainAttrs_list, PySem.F.slot_list_append, PySem.F.type_list_append, mt_append, fun s r h => ty_list hK s r h, fun s rx ra hl p => by
      obtain ⟨y, u, rfl, rfl, ry⟩ := one ra hl
      exact append_of s rx ry p⟩⟩
  · exact ⟨⟨_, _, _, PySem.F.plainAttrs_list, PySem.F.slot_list_extend, PySem.F.type_list_extend, mt_extend, fun s r h => ty_list hK s r h, fun s rx ra hl p => by
      obtain ⟨y, u, rfl, rfl, ry⟩ := one ra hl
      exact extend_of s rx ry p⟩⟩
  · exact ⟨⟨_, _, _, PySem.F.plainAttrs_str, PySem.F.slot_str_join, PySem.F.type_str_join, mt_join, fun _ r h => ty_str r h, fun s rx ra hl p => by
      obtain ⟨y, u, rfl, rfl, ry⟩ := one ra hl
      exact join_of hK s rx ry p⟩⟩
  · exact ⟨⟨_, _, _, PySem.F.plainAttrs_str, PySem.F.slot_str_count, PySem.F.type_str_count, mt_count, fun _ r h => ty_str r h, fun s rx ra hl p => by
      obtain ⟨y, u, rfl, rfl, ry⟩ := one ra hl
      exact tx_of (f := fun a b => .int (Txt.count a b)) (g := fun a b => .int (Txt.count a b)) (fun _ _ _ => rfl) s rx ry p⟩⟩
  · exact ⟨⟨_, _, _, PySem.F.plainAttrs_str, PySem.F.slot_str_rfind, PySem.F.type_str_rfind, mt_rfind, fun _ r h => ty_str r h, fun s rx ra hl p => by
      obtain ⟨y, u, rfl, rfl, ry⟩ := one ra hl
      exact tx_of (f := fun a b => .int (Txt.rfind a b)) (g := fun a b => .int (Txt.rfind a b)) (fun _ _ _ => rfl) s rx ry p⟩⟩
  · exact ⟨⟨_, _, _, PySem.F.plainAttrs_str, PySem.F.slot_str_startswith, PySem.F.type_str_startswith, mt_startswith, fun _ r h => ty_str r h, fun s rx ra hl p => by
      obtain ⟨y, u, rfl, rfl, ry⟩ := one ra hl
      exact tx_of (f := fun a b => .bl (Txt.startswith a b)) (g := fun a b => .bl (Txt.startswith a b)) (fun _ _ _ => rfl) s rx ry p⟩⟩
  · cases hi
theorem bm_indexL (hK : W.K = X.K) (hu : X.A.units + 100 < cLine) : MtFact X W E "index" .indexL 1 := ⟨⟨_, _, _, PySem.F.plainAttrs_list, PySem.F.slot_list_index, PySem.F.type_list_index, mt_indexD (by omega), fun s r h => ty_list hK s r h, fun {α F S H x v as us Q} s rx ra hl p => by
      match as, hl with
      | [y], _ =>
        obtain ⟨u, rfl, ry⟩ := ra.one
        exact index_of' hK s rx ry p⟩⟩
theorem sindex_of (s : Sr W α F S H) (rx : VlR W α F S.length x v) (ry : VlR W α F S.length y u) (p : Post W E (VlX W) α F S H (sIndex x y S) Q) : ∃ a b i rest, v = .str a ∧ [u] = [.str b] ∧ Builtin.Str.occurrences a b 0 a.length 1 = i :: rest ∧ Q (.int (i : Nat)) H := by
  unfold sIndex at p
  cases x with
  | p n => exact p.elim
  | d x =>
    cases x with
    | str a =>
      cases y with
      | p n => exact p.elim
      | d y =>
        cases y with
        | str b =>
          simp only at p
          cases ho : Builtin.Str.occurrences (mk a) (mk b) 0 (mk a).length 1 with
          | nil => rw [ho] at p; exact p.elim
          | cons i r =>
            rw [ho] at p
            cases (show v = V.str _ from rx)
            cases (show u = V.str _ from ry)
            exact ⟨mk a, mk b, i, r, rfl, rfl, ho, p.here s rfl⟩
        | _ => exact p.elim
    | _ => exact p.elim
theorem bm_indexS (hK : W.K = X.K) : MtFact X W E "index" .indexS 1 := ⟨⟨_, _, _, PySem.F.plainAttrs_str, PySem.F.slot_str_index, PySem.F.type_str_index, mt_sindex, fun _ r h => ty_str r h, fun {α F S H x v as us Q} s rx ra hl p => by
      match as, hl with
      | [y], _ =>
        obtain ⟨u, rfl, ry⟩ := ra.one
        exact sindex_of s rx ry p⟩⟩
theorem bm_rule0 (hK : W.K = X.K) {m : Str} {b : Bm} (h : cBm0 m = some b) : MtFact X W E m b 0 := by
  unfold cBm0 at h
  split at h
  · rename_i hx
    have hx := beq_iff_eq.mp hx
    cases h
    subst hx
    exact ⟨⟨_, _, _, PySem.F.plainAttrs_list, PySem.F.slot_list_pop, PySem.F.type_list_pop, mt_pop, fun s r h => ty_list hK s r h, fun {α F S H x v as us Q} s rx ra hl p => by
      match as, hl with
      | [], _ =>
        cases ra
        exact pop_of s rx p⟩⟩
  · cases h
def bmF (b : Bm) (fa : Env → Sto → Res Vl) (fs : Env → Sto → Res (List Vl)) : Env → Sto → Res Vl := fun ρ S => (fa ρ S).bind fun x S => if bmTy b x S then (fs ρ S).bind fun vs S => method b x vs S else .bad
theorem attr_base {o : Expr} {f : Str} {env : PySem.Env} {w : Sem Value} (h : noSuper o = true) : attributeBase o f env w = w := by
  cases o with
  | Call g args kws p =>
    cases g <;> first | rfl | skip
    cases args with
    | cons _ _ => rfl
    | nil =>
      cases kws with
      | cons _ _ => rfl
      | nil =>
        rename_i id pp
        have h : (!(id == ("super" : Str))) = true := h
        have h2 : (id != ("super" : Str)) = true := h
        unfold attributeBase
        simp [h2]
  | _ => rfl

theorem de_bm0 (hK : W.K = X.K) {o : Expr} {m : Str} {b : Bm} {apos : Pos} (h : MtFact X W E m b 0) (hb : noSuper o = true) (hl : (apos.endLine == pos.line) = true) (ho : PE X o (tD W E fa)) :
    PE X (.Call (.Attribute o m apos) [] [] pos) (tD W E (bmF b fa nilF)) := by
  obtain ⟨T, id, r, h1, h2, h3, h4, h5, h6⟩ := h.ex
  refine peI (pe_bm0 h1 h2 h3 h4 ho (attr_base hb) hl) fun σ H Q ⟨α, F, ρ, S, s, er, p⟩ => ⟨α, F, ρ, S, s, er, (Post.bind p).imp fun v H1 ⟨α1, F1, x, S1, x1, s1, r1, p1⟩ => ?_⟩
  dsimp only at p1
  by_cases ht : bmTy b x S1 = true
  · rw [if_pos ht] at p1
    exact ⟨h5 s1 r1 ht, h6 s1 r1 .nil rfl p1⟩
  · rw [if_neg ht] at p1; exact p1.elim
theorem few_of : ∀ {es : List Expr} {env : PySem.Env} {pos : Pos}, es.all notStar = true → (backTo pos (starEach es env)).all (fun x => !x.1) = true
  | [], _, _, _ => rfl
  | e :: es, env, pos, h => by
    rw [List.all_cons, Bool.and_eq_true] at h
    rw [star_cons h.1]
    show (!false && (backTo pos (starEach es env)).all (fun x => !x.1)) = true
    rw [few_of h.2]; rfl
theorem de_bm1 (hK : W.K = X.K) {o : Expr} {m : Str} {b : Bm} {apos : Pos} {fs : Env → Sto → Res (List Vl)} (h : MtFact X W E m b 1) (hb : noSuper o = true) (hl : (apos.endLine == pos.line) = true) (hs : notStar e = true) (ho : PE X o (tD W E fa)) (he : PE X e (tD W E fb)) :
    PE X (.Call (.Attribute o m apos) [e] [] pos) (tD W E (bmF b fa (consF fb nilF))) := by
  obtain ⟨T, id, r, h1, h2, h3, h4, h5, h6⟩ := h.ex
  have hfew : ((backTo pos (starEach [e] X.env)).all (fun x => !x.1) && (backToKw pos (keywordEach [] X.env)).all (fun x => x.1.isSome)
      && decide (([e] : List Expr).length + ([] : List Keyword).length + (if ([] : List Keyword).isEmpty then 0 else 1) < 30)) = true := by
    rw [few_of (by simp [hs])]; rfl
  refine peI (pe_bm h1 h2 h3 h4 ho (da_cons hs he da_nil) (attr_base hb) hfew hl (star_cons hs) rfl) fun σ H Q ⟨α, F, ρ, S, s, er, p⟩ => ⟨α, F, ρ, S, s, er, (Post.bind p).imp fun v H1 ⟨α1, F1, x, S1, x1, s1, r1, p1⟩ => ?_⟩
  dsimp only at p1
  by_cases ht : bmTy b x S1 = true
  · rw [if_pos ht] at p1
    refine ⟨h5 s1 r1 ht, α1, F1, ρ, S1, s1, er.ext x1, ?_⟩
    have p2 : Post W E (VlX W) α1 F1 S1 H1 ((fb ρ S1).bind fun y S => method b x [y] S) Q := by
      have e : (consF fb nilF ρ S1).bind (fun vs S => method b x vs S) = (fb ρ S1).bind fun y S => method b x [y] S := by
        unfold consF
        cases fb ρ S1 <;> rfl
      rw [← e]; exact p1
    show Post W E (VlXs W) α1 F1 S1 H1 ((fb ρ S1).bind fun v S => (nilF ρ S).bind fun vs S => .ok (v :: vs) S) _
    have go := Post.bind (Rel := VlX W) p2
    cases hf : fb ρ S1 with
    | bad => rw [hf] at go; exact go
    | exc ee S' => rw [hf] at go; exact go
    | ok y S2 =>
      rw [hf] at go
      show Post W E (VlXs W) α1 F1 S1 H1 (.ok [y] S2) _
      intro us α2 F2 H2 x2 s2 rs
      obtain ⟨u, rfl, ru⟩ := rs.one
      obtain ⟨α3, F3, y', S3, x3, s3, r3, p3⟩ := go u α2 F2 H2 x2 s2 ru
      exact h6 s2 (r1.ext x2) (.cons ru .nil) rfl (by
        rw [hf] at p2
        exact Post.rebase x2 p2)
  · rw [if_neg ht] at p1; exact p1.elim
theorem peOr {t t' : TE} (h : PE X e t) (h' : PE X e t') : PE X e (fun σ H Q => t σ H Q ∨ t' σ H Q) := ⟨fun pins s σ H Q I q => q.elim (h.run pins s σ H Q I) (h'.run pins s σ H Q I)⟩
theorem de_index (hK : W.K = X.K) (hu : X.A.units + 100 < cLine) {o : Expr} {apos : Pos} (hb : noSuper o = true) (hl : (apos.endLine == pos.line) = true) (hs : notStar e = true) (ho : PE X o (tD W E fa)) (he : PE X e (tD W E fb)) :
    PE X (.Call (.Attribute o "index" apos) [e] [] pos) (tD W E (bmF .index fa (consF fb nilF))) := by
  refine peI (peOr (de_bm1 (fs := nilF) hK (bm_indexL hK hu) hb hl hs ho he) (de_bm1 (fs := nilF) hK (bm_indexS hK) hb hl hs ho he)) fun σ H Q ⟨α, F, ρ, S, s, er, p⟩ => ?_
  have p : Post W E (VlX W) α F S H ((fa ρ S).bind fun x S => if bmTy .index x S then (consF fb nilF ρ S).bind (fun vs S => method .index x vs S) else .bad) Q := p
  cases hf : fa ρ S with
  | bad => rw [hf] at p; exact p.elim
  | exc ee S' => rw [hf] at p; exact .inl ⟨α, F, ρ, S, s, er, by unfold bmF; rw [hf]; exact p⟩
  | ok x S1 =>
    rw [hf] at p
    have p : Post W E (VlX W) α F S H (if bmTy .index x S1 then (consF fb nilF ρ S1).bind (fun vs S => method .index x vs S) else .bad) Q := p
    by_cases hx : isStr x = true
    · refine .inr ⟨α, F, ρ, S, s, er, ?_⟩
      unfold bmF
      rw [hf]
      have e1 : bmTy .index x S1 = true := by show ((listOf x S1).isSome || isStr x) = true; rw [hx, Bool.or_true]
      have e2 : bmTy .indexS x S1 = true := hx
      rw [if_pos e1] at p
      show Post W E (VlX W) α F S H (if bmTy .indexS x S1 then (consF fb nilF ρ S1).bind (fun vs S => method .indexS x vs S) else .bad) Q
      rw [if_pos e2]
      have e3 : (fun (vs : List Vl) (S : Sto) => method .indexS x vs S) = fun vs S => method .index x vs S := by
        funext vs S
        match vs with
        | [] => rfl
        | [v] => show sIndex x v S = if isStr x then sIndex x v S else mIndex x v S; rw [if_pos hx]
        | _ :: _ :: _ => rfl
      rw [e3]; exact p
    · refine .inl ⟨α, F, ρ, S, s, er, ?_⟩
      unfold bmF
      rw [hf]
      have e1 : bmTy .index x S1 = bmTy .indexL x S1 := by show ((listOf x S1).isSome || isStr x) = (listOf x S1).isSome; rw [Bool.eq_false_iff.mpr hx, Bool.or_false]
      rw [e1] at p
      show Post W E (VlX W) α F S H (if bmTy .indexL x S1 then (consF fb nilF ρ S1).bind (fun vs S => method .indexL x vs S) else .bad) Q
      have e3 : (fun (vs : List Vl) (S : Sto) => method .indexL x vs S) = fun vs S => method .index x vs S := by
        funext vs S
        match vs with
        | [] => rfl
        | [v] => show mIndex x v S = if isStr x then sIndex x v S else mIndex x v S; rw [if_neg hx]
        | _ :: _ :: _ => rfl
      rw [e3]; exact p
end
end Z
end

section
set_option maxHeartbeats 1000000
/-! Z12: what is walked; comprehensions; calls. -/
namespace Z
open PySem L2

/-- an iterator hands out these values, whatever happens meanwhile -/
structure Walk (W : Wd) (J : It) (xs : List Vl) (α : Nat → Addr) (F : Hp) (S : Sto) (H : Hp) : Prop where
  turn : ∀ (i : Nat) (x : Vl), xs[i]? = some x → ∀ α' F' S' H', Ext α F S H α' F' S' H' → Sr W α' F' S' H' →
    J.go i H' ∧ ∀ v H2, J.yld i H' v H2 → ∃ F2, Ext α' F' S' H' α' F2 S' H2 ∧ Sr W α' F2 S' H2 ∧ VlR W α' F2 S'.length x v
  done : ∀ α' F' S' H', Ext α F S H α' F' S' H' → Sr W α' F' S' H' → J.stop xs.length H'

/-- the items of what is walked, and an iterator for them -/
def WalkR (W : Wd) : (Nat → Addr) → Hp → Sto → Hp → List Vl × Option (Nat × Cell) → It → Prop := fun α F S H q J => Walk W J q.1 α F (lock S q.2) H ∧ ∀ n c, q.2 = some (n, c) → S[n]? = some c ∧ c ≠ .dead
def tDI (W : Wd) (E : XK) (f : Env → Sto → Res (List Vl × Option (Nat × Cell))) : TI := fun σ H R => ∃ α F ρ S, Sr W α F S H ∧ EnvR W α F S.length ρ σ ∧ Post W E (WalkR W) α F S H (f ρ S) R
theorem piI {X : Cx} {tg it : Expr} {t t' : TI} (h : PI X tg it t) (k : ∀ σ H R, t' σ H R → t σ H R) : PI X tg it t' := ⟨fun pins s σ H R I q => h.run pins s σ H R I (k σ H R q)⟩
theorem piOr {X : Cx} {tg it : Expr} {t t' : TI} (h : PI X tg it t) (h' : PI X tg it t') : PI X tg it (fun σ H R => t σ H R ∨ t' σ H R) := ⟨fun pins s σ H R I q => q.elim (h.run pins s σ H R I) (h'.run pins s σ H R I)⟩

section
variable {X : Cx} {W : Wd} {E : XK} {a b c e tg : Expr} {es : List Expr} {pos : Pos} {fa fb fc : Env → Sto → Res Vl} {fs : Env → Sto → Res (List Vl)}
variable {α : Nat → Addr} {F : Hp} {S : Sto} {H : Hp} {Q : VK} {x y : Vl} {v u : V}

/-- the state behind a lock -/
theorem lock_sr (s : Sr W α F S H) {lk : Option (Nat × Cell)} (hk : ∀ n c, lk = some (n, c) → S[n]? = some c) : Sr W α F (lock S lk) H := by
  cases lk with
  | none => exact s
  | some q => exact s.lock (hk q.1 q.2 rfl)
theorem lock_ok {k : Ik} {vs xs : List Vl} {lk : Option (Nat × Cell)} (h : walked k vs S = some (xs, lk)) : ∀ n c, lk = some (n, c) → S[n]? = some c ∧ c ≠ .dead := by
  have key : ∀ v n c, lockOf v S = some (n, c) → S[n]? = some c := fun v n c h => by
    cases v with
    | d x => cases h
    | p m =>
      simp only [lockOf] at h
      cases e : S[m]? with
      | none => rw [e] at h; cases h
      | some c' => rw [e] at h; cases h; exact e
  have lst : ∀ {v : Vl} {ys : List Vl}, (seqOf v S = some ys ∨ listOf v S = some ys) → ∀ n c, lockOf v S = some (n, c) → S[n]? = some c ∧ c ≠ .dead := fun {v ys} h n c hl => by
    refine ⟨key v n c hl, fun e => ?_⟩
    subst e
    cases v with
    | d x => cases hl
    | p m =>
      have hm := key (.p m) n .dead hl
      simp only [lockOf] at hl
      cases e : S[m]? with
      | none => rw [e] at hl; cases hl
      | some c' =>
        rw [e] at hl
        cases hl
        rcases h with h | h
        · simp [seqOf, e] at h
        · simp [listOf, e] at h
  match vs, h with
  | [v], h =>
    cases k with
    | seq =>
      by_cases hs : ∃ z, v = .d (.str z)
      · obtain ⟨z, rfl⟩ := hs
        simp [walked] at h
        rw [← h.2]
        exact fun n c z => nomatch z
      · have e : walked .seq [v] S = (seqOf v S).map fun xs => (xs, lockOf v S) := by
          cases v with
          | p n => rfl
          | d x => cases x <;> first | rfl | exact absurd ⟨_, rfl⟩ hs
        rw [e] at h
        cases q : seqOf v S with
        | none => rw [q] at h; cases h
        | some ys => rw [q] at h; cases h; exact lst (.inl q)
    | range =>
      cases v with
      | p n => simp [walked] at h
      | d x =>
        cases x <;> simp [walked] at h
        rw [← h.2.2]
        exact fun n c z => nomatch z
    | rev =>
      simp only [walked] at h
      cases q : listOf v S with
      | none => rw [q] at h; cases h
      | some ys => rw [q] at h; cases h; exact lst (.inr q)
    | enum =>
      simp only [walked] at h
      cases q : listOf v S with
      | none => rw [q] at h; cases h
      | some ys =>
        rw [q] at h
        simp only at h
        cases q2 : pures ys with
        | none => rw [q2] at h; cases h
        | some ds => rw [q2] at h; cases h; exact lst (.inr q)
    | zip => simp [walked] at h
    | items => simp [walked] at h
  | [], h => simp [walked] at h
  | [u, v], h =>
    cases k with
    | range =>
      simp only [walked] at h
      cases q : rng2 u v with
      | none => rw [q] at h; cases h
      | some ys => rw [q] at h; cases h; exact fun n c z => nomatch z
    | _ => simp [walked] at h
  | _ :: _ :: _ :: _, h => simp [walked] at h
theorem lock_len (S : Sto) (lk : Option (Nat × Cell)) : (lock S lk).length = S.length := by
  cases lk <;> simp [lock]
/-- items that don't hang on the heap -/
theorem walk_const {J : It} {xs : List Vl} {vs : List V} (hl : xs.length = vs.length) (hgo : ∀ i H', i < xs.length → J.go i H') (hstop : ∀ H', J.stop xs.length H') (hy : ∀ i H' v H2, i < xs.length → J.yld i H' v H2 → H2 = H' ∧ vs[i]? = some v)
    (hv : ∀ (i : Nat) (x : Vl) (v : V), xs[i]? = some x → vs[i]? = some v → ∀ α' F' N, VlR W α' F' N x v) : Walk W J xs α F S H where
  turn := fun i x hx α' F' S' H' e s => by
    have hi : i < xs.length := (List.getElem?_eq_some_iff.mp hx).1
    refine ⟨hgo i H' hi, fun v H2 y => ?_⟩
    obtain ⟨rfl, q⟩ := hy i H' v H2 hi y
    exact ⟨F', Ext.refl, s, hv i x v hx q _ _ _⟩
  done := fun α' F' S' H' e s => hstop H'
theorem walk_rng {lo : Int} {n : Nat} {xs : List Vl} (hx : xs = (List.range n).map fun (i : Nat) => .d (.int (lo + (i : Int)))) : Walk W (Itr lo n) xs α F S H := by
  subst hx
  refine walk_const (vs := (List.range n).map fun (i : Nat) => .int (lo + (i : Int))) (by simp) (fun i _ h => by show i < n; simpa using h) (fun _ => by show n ≤ _; simp) (fun i H' v H2 hi y => ?_) fun i x v hx hv _ _ _ => ?_
  · obtain ⟨e1, e2⟩ := y
    have hi : i < n := by simpa using hi
    subst e2
    exact ⟨e1, by simp [hi]⟩
  · have hi : i < n := by
      have := (List.getElem?_eq_some_iff.mp hx).1
      simpa using this
    simp [hi] at hx hv
    subst hx hv
    rfl
/-- what is read at an address that stays -/
def StaysL (W : Wd) (α : Nat → Addr) (F : Hp) (S : Sto) (H : Hp) (a : Addr) (vs : List V) : Prop := ∀ α' F' S' H', Ext α F S H α' F' S' H' → Sr W α' F' S' H' → SqL W.K H' a vs
theorem stays_of (s : Sr W α F S H) {xs : List Vl} (r : VlR W α F S.length x v) (h : listOf x S = some xs) {lk : Option (Nat × Cell)} (hlk : lk = lockOf x S) :
    ∃ a vs, v = .ref a ∧ VlRs W α F S.length xs vs ∧ H a = some (.lst vs) ∧ StaysL W α F (lock S lk) H a vs := by
  cases x with
  | d d =>
    subst hlk
    cases d <;> simp [listOf] at h
    subst h
    obtain ⟨a, vs, rfl, q, rr⟩ := (show Rp W F _ _ from r)
    exact ⟨a, vs, rfl, .of_pure rr, s.sub _ _ q, fun α' F' S' H' e s' => .of (s'.sub _ _ (e.fr _ _ q))⟩
  | p n =>
    obtain ⟨rfl, hl⟩ := (show v = .ref (α n) ∧ n < S.length from r)
    simp only [listOf] at h
    cases hn : S[n]? with
    | none => rw [hn] at h; cases h
    | some c =>
      rw [hn] at h
      cases c <;> simp at h
      rename_i ys
      subst h
      simp only [lockOf, hn, Option.map_some] at hlk
      subst hlk
      obtain ⟨vs, hv, rr⟩ := s.cel n _ hn
      refine ⟨α n, vs, rfl, rr, hv, fun α' F' S' H' e s' => .of (e.frame _ _ hv fun m lm z => ?_)⟩
      -- no live cell of the locked state stands there
      obtain ⟨c, q, hc⟩ := lm
      have q : (S.set n .dead)[m]? = some c := q
      by_cases em : n = m
      · subst em
        rw [List.getElem?_set_self hl] at q
        exact hc (Option.some.inj q).symm
      · rw [List.getElem?_set_ne em] at q
        exact em (s.inj m n ⟨c, q, hc⟩ ⟨_, hn, fun z => nomatch z⟩ z).symm
theorem walk_list {a : Addr} {vs : List V} {xs : List Vl} {lk : Option (Nat × Cell)} (hK : W.K = X.K) (r : VlRs W α F S.length xs vs) (st : StaysL W α F (lock S lk) H a vs) : Walk W (Itl X.K a) xs α F (lock S lk) H where
  turn := fun i x hx α' F' S' H' e s => by
    obtain ⟨v, hv, rv⟩ := r.get hx
    have q := st α' F' S' H' e s
    rw [hK] at q
    refine ⟨⟨vs, v, q, hv⟩, fun v' H2 y => ?_⟩
    obtain ⟨e1, e2⟩ := y
    subst e1
    have := e2 vs q
    rw [hv] at this
    cases this
    exact ⟨F', Ext.refl, s, by rw [← lock_len S lk] at rv; exact rv.ext e⟩
  done := fun α' F' S' H' e s => by
    have q := st α' F' S' H' e s
    rw [hK] at q
    exact ⟨vs, q, by rw [r.length]; exact Nat.le_refl _⟩
theorem walk_rev {a : Addr} {vs : List V} {xs : List Vl} {lk : Option (Nat × Cell)} (hK : W.K = X.K) (r : VlRs W α F S.length xs vs) (st : StaysL W α F (lock S lk) H a vs) : Walk W (Itv X.K a vs.length) xs.reverse α F (lock S lk) H where
  turn := fun i x hx α' F' S' H' e s => by
    obtain ⟨v, hv, rv⟩ := r.reverse.get hx
    have hi : i < vs.length := by
      have := (List.getElem?_eq_some_iff.mp hv).1
      simpa using this
    have q := st α' F' S' H' e s
    rw [hK] at q
    have hv' : vs[vs.length - 1 - i]? = some v := by
      rw [List.getElem?_reverse hi] at hv
      exact hv
    refine ⟨⟨hi, vs, v, q, hv'⟩, fun v' H2 y => ?_⟩
    obtain ⟨e1, e2⟩ := y
    subst e1
    have := e2 vs q
    rw [hv'] at this
    cases this
    exact ⟨F', Ext.refl, s, by rw [← lock_len S lk] at rv; exact rv.ext e⟩
  done := fun α' F' S' H' e s => by
    show vs.length ≤ xs.reverse.length
    rw [List.length_reverse, r.length]
    exact Nat.le_refl _
theorem walk_tup {a : Addr} {vs : List V} {xs : List Vl} {lk : Option (Nat × Cell)} (hK : W.K = X.K) (r : VlRs W α F S.length xs vs) (q : SqT W.K F a vs) : Walk W (Itt X.K a) xs α F (lock S lk) H where
  turn := fun i x hx α' F' S' H' e s => by
    obtain ⟨v, hv, rv⟩ := r.get hx
    have q := s.sub.sqT (e.fr.sqT q)
    rw [hK] at q
    refine ⟨⟨vs, v, q, hv⟩, fun v' H2 y => ?_⟩
    obtain ⟨e1, e2⟩ := y
    subst e1
    have := e2 vs q
    rw [hv] at this
    cases this
    exact ⟨F', Ext.refl, s, by rw [← lock_len S lk] at rv; exact rv.ext e⟩
  done := fun α' F' S' H' e s => by
    have q := s.sub.sqT (e.fr.sqT q)
    rw [hK] at q
    exact ⟨vs, q, by rw [r.length]; exact Nat.le_refl _⟩
theorem walk_str (z : Tx) : Walk W (Its ⟨z.toArray⟩) (z.map fun c => .d (.str [c])) α F S H := by
  refine walk_const (vs := z.map fun c => .str ⟨#[c]⟩) (by simp) (fun i _ h => by show i < z.toArray.size; simpa using h) (fun _ => by show z.toArray.size ≤ _; simp) (fun i H' v H2 hi y => ?_) fun i x v hx hv _ _ _ => ?_
  · obtain ⟨e1, c, hc, e2⟩ := y
    subst e2
    refine ⟨e1, ?_⟩
    have hc : z[i]? = some c := by simpa using hc
    simp [hc]
  · rw [List.getElem?_map] at hx hv
    cases hz : z[i]? with
    | none => rw [hz] at hx; cases hx
    | some c =>
      rw [hz] at hx hv
      cases hx
      cases hv
      rfl
theorem walk_enum {a : Addr} {ds : List D} {vs : List V} {lk : Option (Nat × Cell)} (hK : W.K = X.K) (r : Rps W F ds vs) (st : StaysL W α F (lock S lk) H a vs) :
    Walk W (Ite X.K a) (((List.range ds.length).zip ds).map fun p => .d (.tup [.int (p.1 : Int), p.2])) α F (lock S lk) H where
  turn := fun i x hx α' F' S' H' e s => by
    rw [List.getElem?_map] at hx
    cases hz : ((List.range ds.length).zip ds)[i]? with
    | none => rw [hz] at hx; cases hx
    | some p =>
      rw [hz] at hx
      cases hx
      obtain ⟨h1, h2⟩ := List.getElem?_zip_eq_some.mp hz
      have hi : i < ds.length := (List.getElem?_eq_some_iff.mp h2).1
      rw [List.getElem?_range hi] at h1
      have h1 : i = p.1 := Option.some.inj h1
      obtain ⟨w, hw, rw'⟩ := r.get h2
      have q := st α' F' S' H' e s
      rw [hK] at q
      refine ⟨⟨vs, w, q, hw⟩, fun v' H2 y => ?_⟩
      obtain ⟨T, w', rfl, hT, rfl, e2⟩ := y
      have := e2 vs q
      rw [hw] at this
      cases this
      obtain ⟨s', x'⟩ := s.newF (o := .tup [.int (i : Nat), w]) hT
      refine ⟨_, x', s', T, [.int (i : Nat), w], rfl, .of upd_same, .int (i : Int), [w], rfl, by rw [h1]; rfl, w, [], rfl, ?_, rfl⟩
      exact Rp.mono (e.fr.trans x'.fr) rw'
  done := fun α' F' S' H' e s => by
    have q := st α' F' S' H' e s
    rw [hK] at q
    exact ⟨vs, q, by simp [r.length]⟩

/-! ### the forms -/
theorem evs1 {ρ : Env} {τ : Type} {g : List Vl → Sto → Res τ} : (consF fa nilF ρ S).bind g = (fa ρ S).bind fun v S => g [v] S := by
  unfold consF
  cases fa ρ S <;> rfl
theorem res_cases {τ : Type} (r : Res τ) : (∃ a S, r = .ok a S) ∨ (∃ e S, r = .exc e S) ∨ r = .bad := by
  cases r
  · exact .inl ⟨_, _, rfl⟩
  · exact .inr (.inl ⟨_, _, rfl⟩)
  · exact .inr (.inr rfl)
theorem pi_any {t : TE} (hl : PE X e t) : PI X tg e (fun σ H R => t σ H fun x H1 => (∃ a, x = .ref a ∧ (∃ xs, SqL X.K H1 a xs) ∧ R (Itl X.K a) H1) ∨ (∃ a, x = .ref a ∧ (∃ xs, SqT X.K H1 a xs) ∧ R (Itt X.K a) H1) ∨ ∃ z, x = .str z ∧ R (Its z) H1) := by
  refine ⟨fun pins s σ H R I h => ?_⟩
  refine thn (hl.run pins s σ H _ I h) fun v s1 ⟨x, H1, I1, r1, q1⟩ => ?_
  rcases q1 with ⟨a, e, ⟨xs, hq⟩, q⟩ | ⟨a, e, ⟨xs, hq⟩, q⟩ | ⟨z, e, q⟩
  · subst e
    cases r1
    obtain ⟨its, rv, p, hz⟩ := I1.list hq
    refine wpAny_pyIter_list p.isList ?_
    refine ⟨s1.heap.objs.size, [s1.heap.objs.size], _, _, H1, rfl, I1.kept (t' := s1.toks) fun b o e => Heap.get?_push_of_some _ e, turn_list a _, ⟨_, Heap.get?_push_size _ rfl, rfl, rfl⟩, fun b hb => ?_, q⟩
    have e : b = s1.heap.objs.size := by simpa using hb
    subst e
    exact I1.fpOk (Nat.le_refl _) (I1.hok.fresh (Nat.le_refl _))
  · subst e
    cases r1
    obtain ⟨its, rv, p, hz⟩ := I1.tuple hq
    refine wpAny_pyIter_tuple (show s1.heap.IsTuple a its.toArray from p) ?_
    refine ⟨s1.heap.objs.size, [s1.heap.objs.size], _, _, H1, rfl, I1.kept (t' := s1.toks) fun b o e => Heap.get?_push_of_some _ e, turn_tuple a _, ⟨_, Heap.get?_push_size _ rfl, rfl, rfl⟩, fun b hb => ?_, q⟩
    have e : b = s1.heap.objs.size := by simpa using hb
    subst e
    exact I1.fpOk (Nat.le_refl _) (I1.hok.fresh (Nat.le_refl _))
  · subst e
    obtain ⟨t, rfl⟩ := r1
    cases ha : z.cps.all (· < 128)
    · exact wpAny_pyIter_wide ha (pi_one (tk := s1.toks) I1 _ (turn_str _ z t "str_iterator" (.inr rfl)) ⟨_, Heap.get?_push_size _ rfl, rfl, rfl⟩ q)
    · exact wpAny_pyIter_ascii ha (pi_one (tk := s1.toks) I1 _ (turn_str _ z t "str_ascii_iterator" (.inl rfl)) ⟨_, Heap.get?_push_size _ rfl, rfl, rfl⟩ q)
/-- one value, then what is walked of it -/
theorem di_one {t : TE} {k : Ik} {wi : V → Hp → (It → Hp → Prop) → Prop} (h : PI X tg c (fun σ H R => tD W E fa σ H fun v H1 => wi v H1 R))
    (go : ∀ {α F S H x v xs lk} {R : It → Hp → Prop}, Sr W α F S H → VlR W α F S.length x v → walked k [x] S = some (xs, lk) → (∀ J, Walk W J xs α F (lock S lk) H → R J H) → wi v H R) :
    PI X tg c (tDI W E fun ρ S => (consF fa nilF ρ S).bind (walkF k)) := by
  refine piI h fun σ H R ⟨α, F, ρ, S, s, er, p⟩ => ⟨α, F, ρ, S, s, er, ?_⟩
  dsimp only at p
  rw [evs1] at p
  refine (Post.bind (Rel := VlX W) p).imp fun v H1 ⟨α1, F1, x, S1, x1, s1, r1, p1⟩ => ?_
  unfold walkF at p1
  dsimp only at p1
  cases hw : walked k [x] S1 with
  | none => rw [hw] at p1; exact p1.elim
  | some q =>
    rw [hw] at p1
    obtain ⟨xs, lk⟩ := q
    exact go s1 r1 hw fun J hJ => p1.here s1 ⟨hJ, lock_ok hw⟩
theorem di_seq (hK : W.K = X.K) (he : PE X e (tD W E fa)) : PI X tg e (tDI W E fun ρ S => (consF fa nilF ρ S).bind (walkF .seq)) := by
  refine di_one (t := tD W E fa) (pi_any he) fun {α F S H x v xs lk R} s r hw k => ?_
  cases hq : seqOf x S with
  | none =>
    cases x with
    | p n => simp [walked, hq] at hw
    | d x =>
      cases x with
      | str z =>
        simp [walked] at hw
        obtain ⟨rfl, rfl⟩ := hw
        exact .inr (.inr ⟨⟨z.toArray⟩, r, k _ (walk_str z)⟩)
      | _ => simp [walked, hq] at hw
  | some ys =>
    have e : walked .seq [x] S = some (ys, lockOf x S) := by
      cases x with
      | p n => simp [walked, hq]
      | d x => cases x <;> first | (simp [seqOf] at hq; done) | simp [walked, hq]
    rw [e] at hw
    have hw := Option.some.inj hw
    obtain ⟨h1, h2⟩ := Prod.mk.inj hw
    subst h1 h2
    cases hl : listOf x S with
    | some zs =>
      obtain ⟨a, vs, rfl, rr, hv, st⟩ := stays_of s r hl rfl
      have : zs = ys := by
        cases x with
        | p n => 
          simp only [listOf, seqOf] at hl hq
          rw [hl] at hq
          exact Option.some.inj hq
        | d x => cases x <;> simp [listOf] at hl <;> simp [seqOf] at hq <;> rw [← hl, ← hq]
      subst this
      exact .inl ⟨a, rfl, ⟨vs, .of hv⟩, k _ (walk_list hK rr st)⟩
    | none =>
      cases x with
      | p n =>
        simp only [listOf, seqOf] at hl hq
        rw [hl] at hq
        cases hq
      | d x =>
        cases x with
        | tup ds =>
          simp [seqOf] at hq
          subst hq
          obtain ⟨a, vs, rfl, q, rr⟩ := (show Rp W F (.tup ds) v from r)
          exact .inr (.inl ⟨a, rfl, ⟨vs, by rw [← hK]; exact s.sub.sqT q⟩, k _ (walk_tup (lk := none) hK (.of_pure rr) q)⟩)
        | scr ns =>
          simp [seqOf] at hq
          subst hq
          obtain ⟨a, rfl, q⟩ := (show Rp W F (.scr ns) v from r)
          refine .inl ⟨a, rfl, ⟨_, by rw [← hK]; exact s.sub.sqL q⟩, k _ (walk_list (lk := none) (vs := ns.map V.int) hK ?_ fun α' F' S' H' e s' => s'.sub.sqL (e.fr.sqL q))⟩
          have : VlRs W α F S.length ((ns.map D.int).map .d) (ns.map V.int) := .of_pure (ints_rps ns)
          rw [List.map_map] at this
          exact this
        | _ => simp [seqOf] at hq <;> simp [listOf] at hl
theorem di_rng1 (hg : Gl X "range") (hm : X.mg "range" = none) (hs : notStar a = true) {p1 : Pos} (ha : PE X a (tD W E fa)) : PI X tg (.Call (.Name "range" p1) [a] [] pos) (tDI W E fun ρ S => (consF fa nilF ρ S).bind (walkF .range)) := by
  refine di_one (t := tD W E fa) (wi := fun v H1 R => ∃ j : Int, [v] = [.int j] ∧ -(2 ^ 62) ≤ j ∧ j < 2 ^ 62 ∧ R (Itr 0 j.toNat) H1) (pi_range1 hg hm (pa_cons ha pa_nil (star_cons hs)) (star_cons hs)) fun {α F S H x v xs lk R} s r hw k => ?_
  cases x with
  | p n => simp [walked] at hw
  | d x =>
    cases x with
    | int n =>
      have hw : (if decide (-(2 ^ 62) ≤ n) && decide (n < 2 ^ 62) then some ((List.range n.toNat).map fun (i : Nat) => Vl.d (.int (i : Int)), none) else none) = some (xs, lk) := hw
      by_cases hz : (decide (-(2 ^ 62) ≤ n) && decide (n < 2 ^ 62)) = true
      · rw [if_pos hz] at hw
        cases hw
        rw [Bool.and_eq_true] at hz
        cases (show v = V.int n from r)
        exact ⟨n, rfl, of_decide_eq_true hz.1, of_decide_eq_true hz.2, k _ (walk_rng (by simp))⟩
      · rw [if_neg hz] at hw; cases hw
    | _ => simp [walked] at hw
theorem di_rng2 (hg : Gl X "range") (hm : X.mg "range" = none) (hs : notStar a = true) (hs2 : notStar b = true) {p1 : Pos} (ha : PE X a (tD W E fa)) (hb : PE X b (tD W E fb)) : PI X tg (.Call (.Name "range" p1) [a, b] [] pos) (tDI W E fun ρ S => (consF fa (consF fb nilF) ρ S).bind (walkF .range)) := by
  refine piI (pi_range2 hg hm (da_cons hs ha (da_cons hs2 hb da_nil)) (by rw [star_cons hs, star_cons hs2]; rfl) (by rw [star_cons hs2]; rfl)) fun σ H R ⟨α, F, ρ, S, s, er, p⟩ => ?_
  have p : Post W E (WalkR W) α F S H ((consF fa (consF fb nilF) ρ S).bind (walkF .range)) R := p
  refine ⟨α, F, ρ, S, s, er, ?_⟩
  cases hr : consF fa (consF fb nilF) ρ S with
  | bad => rw [hr] at p; exact p.elim
  | exc e S' => rw [hr] at p; exact p
  | ok xs S1 =>
    have hl : ∃ x y, xs = [x, y] := by
      unfold consF at hr
      cases h1 : fa ρ S with
      | bad => rw [h1] at hr; cases hr
      | exc e S' => rw [h1] at hr; cases hr
      | ok x S2 =>
        rw [h1] at hr
        simp only [Res.bind, nilF] at hr
        cases h2 : fb ρ S2 with
        | bad => rw [h2] at hr; cases hr
        | exc e S' => rw [h2] at hr; cases hr
        | ok y S3 =>
          rw [h2] at hr
          cases hr
          exact ⟨x, y, rfl⟩
    obtain ⟨x, y, rfl⟩ := hl
    rw [hr] at p
    intro vs α1 F1 H1 x1 s1 r1
    have p1 : Post W E (WalkR W) α F S H (walkF .range [x, y] S1) R := p
    unfold walkF at p1
    cases hw : rng2 x y with
    | none => simp [walked, hw] at p1; exact p1.elim
    | some zs =>
      simp only [walked, hw, Option.map_some] at p1
      cases r1 with
      | cons ra rb =>
        cases rb with
        | cons rb rc =>
          cases rc
          cases x with
          | p n => simp [rng2] at hw
          | d x =>
            cases x with
            | int i =>
              cases y with
              | p n => simp [rng2] at hw
              | d y =>
                cases y with
                | int j =>
                  have hw : (if inRng i && inRng j then some (rngs i j) else none) = some zs := hw
                  by_cases hz : (inRng i && inRng j) = true
                  · rw [if_pos hz] at hw
                    cases hw
                    simp only [inRng, Bool.and_eq_true, decide_eq_true_eq] at hz
                    rename_i va vb
                    cases (show va = V.int i from ra)
                    cases (show vb = V.int j from rb)
                    exact ⟨i, j, rfl, ⟨hz.1.1, hz.1.2, hz.2.1, hz.2.2⟩, p1 _ α1 F1 H1 x1 s1 ⟨walk_rng rfl, fun n c z => nomatch z⟩⟩
                  · rw [if_neg hz] at hw; cases hw
                | _ => simp [rng2] at hw
            | _ => simp [rng2] at hw
theorem di_rev (hK : W.K = X.K) (hg : Gl X "reversed") (hm : X.mg "reversed" = none) (hs : notStar a = true) {p1 : Pos} (ha : PE X a (tD W E fa)) : PI X tg (.Call (.Name "reversed" p1) [a] [] pos) (tDI W E fun ρ S => (consF fa nilF ρ S).bind (walkF .rev)) := by
  refine di_one (t := tD W E fa) (wi := fun v H1 R => ∃ (a : Addr) (xs : List V), [v] = [.ref a] ∧ SqL X.K H1 a xs ∧ R (Itv X.K a xs.length) H1) (pi_reversed hg hm (pa_cons ha pa_nil (star_cons hs)) (star_cons hs)) fun {α F S H x v xs lk R} s r hw k => ?_
  cases hl : listOf x S with
  | none => simp [walked, hl] at hw
  | some ys =>
    simp [walked, hl] at hw
    obtain ⟨rfl, rfl⟩ := hw
    obtain ⟨a, vs, rfl, rr, hv, st⟩ := stays_of s r hl rfl
    exact ⟨a, vs, rfl, .of hv, k _ (walk_rev hK rr st)⟩
theorem di_enum {elts : List Expr} {kk : Nat} {tpos : Pos} (hK : W.K = X.K) (hg : Gl X "enumerate") (hm : X.mg "enumerate" = none) (hs : notStar a = true) {p1 : Pos} (ha : PE X a (tD W E fa)) :
    PI X (.Tuple elts kk tpos) (.Call (.Name "enumerate" p1) [a] [] pos) (tDI W E fun ρ S => (consF fa nilF ρ S).bind (walkF .enum)) := by
  refine di_one (t := tD W E fa) (wi := fun v H1 R => ∃ (a : Addr) (xs : List V), [v] = [.ref a] ∧ SqL X.K H1 a xs ∧ R (Ite X.K a) H1) (pi_enum hg hm (pa_cons ha pa_nil (star_cons hs)) (star_cons hs)) fun {α F S H x v xs lk R} s r hw k => ?_
  cases hl : listOf x S with
  | none => simp [walked, hl] at hw
  | some ys =>
    cases hp : pures ys with
    | none => simp [walked, hl, hp] at hw
    | some ds =>
      simp [walked, hl, hp] at hw
      obtain ⟨rfl, rfl⟩ := hw
      obtain ⟨a, vs, rfl, rr, hv, st⟩ := stays_of s r hl rfl
      exact ⟨a, vs, rfl, .of hv, k _ (walk_enum hK (rr.pures hp) st)⟩
end
end Z
end

section
set_option maxHeartbeats 1000000
/-! Z13: targets, comprehensions, calls. -/
namespace Z
open PySem L2

section
variable {X : Cx} {W : Wd} {E : XK} {a b c e tg : Expr} {es : List Expr} {pos : Pos} {fa fb fc : Env → Sto → Res Vl} {fs : Env → Sto → Res (List Vl)}
variable {α : Nat → Addr} {F : Hp} {S : Sto} {H : Hp} {Q : VK} {x y : Vl} {v u : V}

/-! ### targets -/
/-- names are stored -/
structure Stored (W : Wd) (α : Nat → Addr) (F : Hp) (N : Nat) (is : List Nat) (σ : L2.St) (ρ' : Env) (σ' : L2.St) : Prop where
  env : EnvR W α F N ρ' σ'
  out : ∀ (j : Nat), j ∉ is → σ'[j]? = σ[j]?
  len : σ'.length = σ.length
def gD (W : Wd) (t : Tg) : TG := fun v σ H Q => ∃ α F S x ρ ρ', Sr W α F S H ∧ EnvR W α F S.length ρ σ ∧ VlR W α F S.length x v ∧ bindT t x ρ = some ρ' ∧ ∀ σ', Stored W α F S.length t.slots σ ρ' σ' → Q σ' H
def gDs (W : Wd) (ts : List Tg) : TGs := fun vs σ H Q => ∃ α F S ds ρ ρ', Sr W α F S H ∧ EnvR W α F S.length ρ σ ∧ Rps W F ds vs ∧ bindTs ts ds ρ = some ρ' ∧ ∀ σ', Stored W α F S.length (Tg.slotss ts) σ ρ' σ' → Q σ' H
theorem pgI {t t' : TG} (h : PG X tg t) (k : ∀ v σ H Q, t' v σ H Q → t v σ H Q) : PG X tg t' := ⟨fun pins s σ H x u Q I r q => h.run pins s σ H x u Q I r (k x σ H Q q)⟩
theorem pgsI {t t' : TGs} (h : PGs X es t) (k : ∀ v σ H Q, t' v σ H Q → t v σ H Q) : PGs X es t' := ⟨fun pins s σ H x u Q I r q => h.run pins s σ H x u Q I r (k x σ H Q q)⟩
theorem dg_var {i : Nat} {n : Str} (hN : X.N.Nodup) (hi : X.N[i]? = some n) (hx : Loc X.env.scope n) (hf : X.fn n = true ∨ X.env.scope.names.lookup n = some .local) : PG X (.Name n pos) (gD W (.var i)) :=
  pgI (pg_name hN hi hx hf) fun v σ H Q ⟨α, F, S, x, ρ, ρ', s, er, r, hb, k⟩ => by
    cases hb
    refine k _ ⟨er.set r i, fun j hj => ?_, by simp⟩
    have ne : i ≠ j := fun z => hj (by simp [Tg.slots, z])
    rw [List.getElem?_set_ne ne]
theorem asg_cons (h : notStar e = true) {env : PySem.Env} : assignEach (e :: es) env = (false, assign e env) :: assignEach es env := by
  cases e <;> first | rfl | (simp [notStar] at h)
theorem asg_len : ∀ {es : List Expr} {env : PySem.Env}, es.all notStar = true → (assignEach es env).length = es.length
  | [], _, _ => rfl
  | e :: es, env, h => by
    rw [List.all_cons, Bool.and_eq_true] at h
    rw [asg_cons h.1, List.length_cons, asg_len h.2, List.length_cons]
theorem asg_star : ∀ {es : List Expr} {env : PySem.Env}, es.all notStar = true → List.findIdx? (fun x => x.fst) (assignEach es env) = none
  | [], _, _ => rfl
  | e :: es, env, h => by
    rw [List.all_cons, Bool.and_eq_true] at h
    rw [asg_cons h.1, List.findIdx?_cons]
    simp [asg_star h.2]
theorem dg_tup {k : Nat} {ts : List Tg} (hK : W.K = X.K) (hc : X.calm = true) (hn : es.all notStar = true) (h : PGs X es (gDs W ts)) (hl : ts.length = es.length) : PG X (.Tuple es k pos) (gD W (.tup ts)) := by
  refine pgI (pg_tup (n := es.length) hc h (asg_len hn) (asg_star hn)) fun v σ H Q ⟨α, F, S, x, ρ, ρ', s, er, r, hb, k⟩ => ?_
  cases x with
  | p n => cases hb
  | d x =>
    cases x with
    | tup ds =>
      obtain ⟨a, vs, rfl, q, rr⟩ := (show Rp W F (.tup ds) v from r)
      have hb : bindTs ts ds ρ = some ρ' := hb
      have len : ∀ (ts : List Tg) (ds : List D) (ρ ρ' : Env), bindTs ts ds ρ = some ρ' → ds.length = ts.length := by
        intro ts
        induction ts with
        | nil => intro ds ρ ρ' h; cases ds <;> simp [bindTs] at h ⊢
        | cons t ts ih =>
          intro ds ρ ρ' h
          cases ds with
          | nil => simp [bindTs] at h
          | cons d ds =>
            simp only [bindTs] at h
            cases e : bindT t (.d d) ρ with
            | none => rw [e] at h; cases h
            | some ρ1 => rw [e] at h; simp [ih ds ρ1 ρ' h]
      exact ⟨a, vs, rfl, by rw [← hK]; exact s.sub.sqT q, by rw [← rr.length, len ts ds ρ ρ' hb, hl], α, F, S, ds, ρ, ρ', s, er, rr, hb, k⟩
    | _ => cases hb
theorem dgs_nil : PGs X [] (gDs W []) := pgsI pgs_nil fun vs σ H Q ⟨α, F, S, ds, ρ, ρ', s, er, r, hb, k⟩ => by
  cases ds with
  | nil =>
    cases hb
    exact ⟨r, k σ ⟨er, fun _ _ => rfl, rfl⟩⟩
  | cons _ _ => cases hb
theorem dgs_cons {t : Tg} {ts : List Tg} (hn : notStar e = true) (h : PG X e (gD W t)) (hs : PGs X es (gDs W ts)) : PGs X (e :: es) (gDs W (t :: ts)) := pgsI (pgs_cons h hs (by rw [asg_cons hn]; rfl)) fun vs σ H Q ⟨α, F, S, ds, ρ, ρ', s, er, r, hb, k⟩ => by
  cases ds with
  | nil => cases hb
  | cons d ds =>
    obtain ⟨v, r0, rfl, r1, r2⟩ := r
    simp only [bindTs] at hb
    cases e1 : bindT t (.d d) ρ with
    | none => rw [e1] at hb; cases hb
    | some ρ1 =>
      rw [e1] at hb
      refine ⟨v, r0, rfl, α, F, S, .d d, ρ, ρ1, s, er, r1, e1, fun σ1 st1 => ⟨α, F, S, ds, ρ1, ρ', s, st1.env, r2, hb, fun σ2 st2 => k σ2 ⟨st2.env, fun j hj => ?_, st2.len.trans st1.len⟩⟩⟩
      have hj : j ∉ t.slots ∧ j ∉ Tg.slotss ts := by simpa [Tg.slotss, List.mem_append, not_or] using hj
      rw [st2.out j hj.2, st1.out j hj.1]

/-! ### list comprehensions -/
theorem wipe_get (σ : L2.St) : ∀ (vs : List Nat) (j : Nat), (L2.wipe σ vs)[j]? = if j ∈ vs ∧ j < σ.length then some none else σ[j]?
  | [], j => by simp [L2.wipe]
  | i :: vs, j => by
    unfold L2.wipe
    by_cases e : i = j
    · subst e
      by_cases hl : i < σ.length
      · rw [List.getElem?_set_self (by rw [wipe_length]; exact hl)]
        simp [hl]
      · rw [List.getElem?_eq_none (by simp [wipe_length]; omega)]
        simp [hl]
    · rw [List.getElem?_set_ne e, wipe_get σ vs j]
      have : (j ∈ i :: vs) ↔ j ∈ vs := by
        rw [List.mem_cons]
        exact ⟨fun z => z.resolve_left fun w => e w.symm, .inr⟩
      simp only [this]
theorem wipe_stored {α : Nat → Addr} {N : Nat} {σ σ' : L2.St} {ρ' : Env} {is vs : List Nat} (h : Stored W α F N is (L2.wipe σ vs) ρ' σ') (hs : ∀ i ∈ is, i ∈ vs) : L2.wipe σ' vs = L2.wipe σ vs := by
  have hl : σ'.length = σ.length := by rw [h.len, wipe_length]
  apply List.ext_getElem?
  intro j
  rw [wipe_get, wipe_get, hl]
  by_cases hj : j ∈ vs ∧ j < σ.length
  · rw [if_pos hj, if_pos hj]
  · rw [if_neg hj, if_neg hj]
    by_cases hv : j ∈ vs
    · have h1 : ¬ j < σ.length := fun z => hj ⟨hv, z⟩
      rw [List.getElem?_eq_none (by omega), List.getElem?_eq_none (by omega)]
    · rw [h.out j fun z => hv (hs j z), wipe_get, if_neg fun z => hv z.1]
theorem unlock_opt (s : Sr W α F S H) {lk : Option (Nat × Cell)} (hk : ∀ n c, lk = some (n, c) → S[n]? = some c ∧ c ≠ .dead) {α' : Nat → Addr} {F' : Hp} {S' : Sto} {H' : Hp} (x : Ext α F (lock S lk) H α' F' S' H') (s' : Sr W α' F' S' H') :
    Sr W α' F' (unlock S' lk) H' ∧ Ext α F S H α' F' (unlock S' lk) H' := by
  cases lk with
  | none => exact ⟨s', x⟩
  | some q =>
    obtain ⟨h1, h2⟩ := hk q.1 q.2 rfl
    exact s.unlock h1 x s' h2
/-- the list that was made becomes the answer -/
theorem fin_made {cell : Bool} {α0 : Nat → Addr} {F0 : Hp} {S0 : Sto} {H0 : Hp} {d0 : Addr} {xs : List Vl} {vs : List V} (p : Post W E (VlX W) α0 F0 S0 H0 (newList cell xs S) Q) (x : Ext α0 F0 S0 H0 α F S H) (s : Sr W α F S H) (hd : H0 d0 = none) (o : Oth α F S d0) (h : H d0 = some (.lst vs)) (r : VlRs W α F S.length xs vs) : Q (.ref d0) H := by
  unfold newList at p
  split at p
  · split at p
    · refine p _ _ _ _ (x.adoptC hd) (s.adoptC o h (c := .lst xs) ⟨vs, h, r.mono (fun n hn => adr_ne (Nat.ne_of_lt hn)) (Nat.le_succ _) (Sub.refl F)⟩) ⟨by rw [adr_same], by simp⟩
    · split at p
      · rename_i ds hp
        exact p _ _ _ _ (x.adoptF hd o.f) (s.adoptF o h) ⟨d0, vs, rfl, upd_same, Rps.mono (fun a v q => by rw [upd_ne (ne_of_none q o.f)]; exact q) (r.pures hp)⟩
      · exact p.elim
  · exact p.elim
def lcF (fcond : Env → Sto → Res Bool) (fe : Env → Sto → Res Vl) : Env → Sto → Res (Option Vl) := fun ρ S => (fcond ρ S).bind fun b S => if b then (fe ρ S).bind fun y S => .ok (some y) S else .ok none S
def lcAll (cell : Bool) (t : Tg) (own : List Nat) (fi : Env → Sto → Res (List Vl × Option (Nat × Cell))) (fcond : Env → Sto → Res Bool) (fe : Env → Sto → Res Vl) : Env → Sto → Res Vl := fun ρ S =>
  (fi ρ S).bind fun q S => (turns (lcF fcond fe) t (Z.wipe ρ own) q.1 [] (lock S q.2)).bind fun ys S => newList cell ys (unlock S q.2)
theorem lc_read {own : List (Str × Nat)} {cell : Bool} {t : Tg} {fi : Env → Sto → Res (List Vl × Option (Nat × Cell))} {fcond : Env → Sto → Res Bool} {fe : Env → Sto → Res Vl} (hsub : ∀ i ∈ t.slots, i ∈ own.map (·.2))
    {σ : L2.St} {H : Hp} {Q : VK} (h : tD W E (lcAll cell t (own.map (·.2)) fi fcond fe) σ H Q) : tLc (tDI W E fi) (gD W t) (tDT W E0 fcond) (tD W E0 fe) (own.map (·.2)) σ H Q := by
  obtain ⟨α, F, ρ, S, s, er, p⟩ := h
  refine ⟨α, F, ρ, S, s, er, (Post.bind (Rel := WalkR W) p).imp fun J H1 ⟨α1, F1, q, S1, x1, s1, ⟨wk, lkok⟩, p1⟩ => ?_⟩
  dsimp only at p1
  intro d0 hd0
  obtain ⟨xs, lk⟩ := q
  dsimp only at wk lkok p1
  have s1l : Sr W α1 F1 (lock S1 lk) H1 := lock_sr s1 fun n c h => (lkok n c h).1
  have e1 : EnvR W α1 F1 (lock S1 lk).length ρ σ := by rw [lock_len]; exact er.ext x1
  generalize hfull : turns (lcF fcond fe) t (Z.wipe ρ (own.map (·.2))) xs [] (lock S1 lk) = full at p1
  let Winv : Nat → Nat → Hp → Prop := fun i m H' => m = xs.length - i ∧ i ≤ xs.length ∧ ∃ αc Fc Sc acc vs, Ext α1 F1 (lock S1 lk) H1 αc Fc Sc H' ∧ Sr W αc Fc Sc H' ∧ Oth αc Fc Sc d0 ∧ H' d0 = some (.lst vs) ∧ VlRs W αc Fc Sc.length acc vs ∧
    turns (lcF fcond fe) t (Z.wipe ρ (own.map (·.2))) (xs.drop i) acc Sc = full
  refine ⟨Winv, ⟨xs.length, rfl, Nat.zero_le _, α1, F1, lock S1 lk, [], [], Ext.refl.oth hd0, s1l.oth (s1l.oth0 hd0), s1l.oth0 hd0, upd_same, .nil, hfull⟩, ?_⟩
  rintro i m H' ⟨rfl, hi', αc, Fc, Sc, acc, vs, x2, s2, o2, hd2, r2, hf2⟩
  by_cases hlt : i < xs.length
  · -- one more turn
    have hx : xs[i]? = some xs[i] := List.getElem?_eq_getElem hlt
    obtain ⟨go, yl⟩ := wk.turn i xs[i] hx αc Fc Sc H' x2 s2
    rw [List.drop_eq_getElem_cons hlt] at hf2
    unfold turns at hf2
    refine .inr ⟨go, Winv (i + 1) (xs.length - (i + 1)), fun H'' w => ⟨_, by omega, w⟩, fun v H2 y => ?_⟩
    obtain ⟨F2, x3, s3, r3⟩ := yl v H2 y
    have e3 := e1.ext (x2.trans x3)
    cases hb : bindT t xs[i] (Z.wipe ρ (own.map (·.2))) with
    | none =>
      rw [hb] at hf2
      rw [← hf2] at p1
      exact p1.elim
    | some ρ' =>
      rw [hb] at hf2
      simp only at hf2
      refine ⟨αc, F2, Sc, xs[i], Z.wipe ρ (own.map (·.2)), ρ', s3, e3.wipe _, r3, hb, fun σ' st => ⟨wipe_stored st hsub, αc, F2, ρ', Sc, s3, st.env, ?_⟩⟩
      have nope : (∀ o S', lcF fcond fe ρ' Sc ≠ .ok o S') → False := fun hno => by
        cases hq : lcF fcond fe ρ' Sc with
        | ok o S' => exact hno o S' hq
        | exc ee S' => rw [hq] at hf2; rw [← hf2] at p1; exact p1.elim
        | bad => rw [hq] at hf2; rw [← hf2] at p1; exact p1.elim
      cases hcd : fcond ρ' Sc with
      | bad => exact (nope fun o S' z => by simp [lcF, hcd, Res.bind] at z).elim
      | exc ee S' => exact (nope fun o S' z => by simp [lcF, hcd, Res.bind] at z).elim
      | ok b S3 =>
        intro b' α4 F4 H4 x4 s4 eb
        cases (show b = b' from eb)
        have x34 := x3.trans x4
        cases b with
        | false =>
          have hq : lcF fcond fe ρ' Sc = .ok none S3 := by simp [lcF, hcd, Res.bind]
          rw [hq] at hf2
          simp only at hf2
          rw [if_neg Bool.false_ne_true]
          obtain ⟨o4, hd4⟩ := o2.ext x34 hd2
          exact ⟨rfl, hlt, α4, F4, S3, acc, vs, x2.trans x34, s4, o4, hd4, r2.ext x34, hf2⟩
        | true =>
          rw [if_pos rfl]
          refine ⟨α4, F4, ρ', S3, s4, st.env.ext x4, ?_⟩
          cases hfe : fe ρ' S3 with
          | bad => exact (nope fun o S' z => by simp [lcF, hcd, hfe, Res.bind] at z).elim
          | exc ee S' => exact (nope fun o S' z => by simp [lcF, hcd, hfe, Res.bind] at z).elim
          | ok y S4 =>
            intro w α5 F5 H5 x5 s5 rw5
            have hq : lcF fcond fe ρ' Sc = .ok (some y) S4 := by simp [lcF, hcd, hfe, Res.bind]
            rw [hq] at hf2
            simp only at hf2
            by_cases hz : acc.length < most
            · rw [if_pos (by simpa using hz)] at hf2
              have x35 := x34.trans x5
              obtain ⟨o5, hd5⟩ := o2.ext x35 hd2
              refine ⟨vs, hd5, by rw [← r2.length, ← most_eq]; exact hz, rfl, hlt, α5, F5, S4, acc ++ [y], vs ++ [w], (x2.trans x35).oth hd0, s5.oth o5, o5, upd_same, (r2.ext x35).append (.cons rw5 .nil), hf2⟩
            · rw [if_neg (by simpa using hz)] at hf2
              rw [← hf2] at p1
              exact p1.elim
  · -- the end
    have hi2 : i = xs.length := by omega
    subst hi2
    rw [List.drop_length] at hf2
    unfold turns at hf2
    rw [← hf2] at p1
    refine .inl ⟨wk.done αc Fc Sc H' x2 s2, ?_⟩
    obtain ⟨s6, x6⟩ := unlock_opt s1 lkok x2 s2
    have o6 : Oth αc Fc (unlock Sc lk) d0 := by
      refine ⟨o2.f, fun n l z => ?_⟩
      obtain ⟨c, hc, hcd⟩ := l
      obtain ⟨u, hu⟩ := s6.there ⟨c, hc, hcd⟩
      by_cases hn : Live Sc n
      · exact o2.c n hn z
      · cases lk with
        | none => exact hn ⟨c, hc, hcd⟩
        | some q =>
          obtain ⟨h1, h2⟩ := lkok q.1 q.2 rfl
          have ne : q.1 = n := by
            by_cases z2 : q.1 = n
            · exact z2
            · have hc : (Sc.set q.1 q.2)[n]? = some c := hc
              rw [List.getElem?_set_ne z2] at hc
              exact absurd ⟨c, hc, hcd⟩ hn
          obtain ⟨v, hv⟩ := s1.there ⟨q.2, h1, h2⟩
          have hl : q.1 < S1.length := (List.getElem?_eq_some_iff.mp h1).1
          rw [← ne, x6.al q.1 hl] at z
          rw [z, hd0] at hv
          cases hv
    exact fin_made (cell := cell) p1 x6 s6 hd0 o6 hd2 (by
      have : (unlock Sc lk).length = Sc.length := by cases lk <;> simp [unlock]
      rw [this]; exact r2)

theorem de_lc {iter elt : Expr} {ifs : List Expr} {scope : Scope} {own : List (Str × Nat)} {cell : Bool} {t : Tg} {fi : Env → Sto → Res (List Vl × Option (Nat × Cell))} {fcond : Env → Sto → Res Bool} {fe : Env → Sto → Res Vl}
    (hc : X.calm = true) (hN : X.N.Nodup) (hi : PI X tg iter (tDI W E fi)) (ok : BlkOk X.N X.env.scope scope own)
    (hg : ∀ (s : Shared) (H : Hp) (C : Addr) (cl : List (Str × Addr)) (fp : List Addr), PG (X.blk s H scope (compEnvC scope cl C X.env) fp) tg (gD W t))
    (ht : ∀ (s : Shared) (H : Hp) (C : Addr) (cl : List (Str × Addr)) (fp : List Addr), PTs (X.blk s H scope (compEnvC scope cl C X.env) fp) ifs (tDT W E0 fcond))
    (he : ∀ (s : Shared) (H : Hp) (C : Addr) (cl : List (Str × Addr)) (fp : List Addr), PE (X.blk s H scope (compEnvC scope cl C X.env) fp) elt (tD W E0 fe))
    (hs : ∀ x, foldedSetIterable iter X.env x = pure x) (hsub : ∀ i ∈ t.slots, i ∈ own.map (·.2)) :
    PE X (.ListComp elt [⟨tg, iter, ifs, 0⟩] scope pos) (tD W E (lcAll cell t (own.map (·.2)) fi fcond fe)) :=
  peI (pe_lc hc hN hi ok hg ht he hs) fun σ H Q h => lc_read hsub h

/-! ### calls -/
/-- what a def of number f promises: what its run tells -/
def spF (W : Wd) (rc : Nat → List Vl → Sto → Res Vl) (f : Nat) : Sp := fun vs H Q E => ∃ α F S as, Sr W α F S H ∧ VlRs W α F S.length as vs ∧ Post W E (VlX W) α F S H (rc f as S) Q
theorem de_call {CX : CXT} {k f : Nat} {fd : FuncData} {ps : List Str} {rc : Nat → List Vl → Sto → Res Vl} {n : Str} {p1 : Pos} (Fk : FnOk X.prog X.w X.K X.mg X.base CX k (W.fa f) fd ps (spF W rc f)) (hr : Room k X.A) (hg : Gl X n) (hm : X.mg n = some (.ref (W.fa f))) (hk : PySem.W.keepIn X.K (.ref (W.fa f)) = true)
    (hb : Binds X.K fd ps []) (hx : Passes CX X E) (hd : (n == ("__debug__" : Str)) = false) (hs : notStar e = true) (hss : es.all notStar = true) (ha : PA X (e :: es) (tDA W E fs)) : PE X (.Call (.Name n p1) (e :: es) [] pos) (tD W E fun ρ S => (fs ρ S).bind fun vs S => rc f vs S) :=
  peI (pe_call Fk hr hg hm hk hb .nil hx ha hd (star_cons hs) (star_none hss)) fun σ H Q ⟨α, F, ρ, S, s, er, p⟩ => ⟨α, F, ρ, S, s, er, (Post.bind (Rel := VlXs W) p).imp fun vs H1 ⟨α1, F1, as, S1, x1, s1, r1, p1⟩ => ⟨α1, F1, S1, as, s1, by rw [List.append_nil]; exact r1, p1⟩⟩
theorem de_call0 {CX : CXT} {k f : Nat} {fd : FuncData} {ps : List Str} {rc : Nat → List Vl → Sto → Res Vl} {n : Str} {p1 : Pos} (Fk : FnOk X.prog X.w X.K X.mg X.base CX k (W.fa f) fd ps (spF W rc f)) (hr : Room k X.A) (hg : Gl X n) (hm : X.mg n = some (.ref (W.fa f))) (hk : PySem.W.keepIn X.K (.ref (W.fa f)) = true)
    (hb : Binds X.K fd ps []) (hx : Passes CX X E) (hd : (n == ("__debug__" : Str)) = false) : PE X (.Call (.Name n p1) [] [] pos) (tD W E fun ρ S => (nilF ρ S).bind fun vs S => rc f vs S) :=
  peI (pe_call0 Fk hr hg hm hk hb .nil hx hd) fun σ H Q ⟨α, F, ρ, S, s, er, p⟩ => ⟨α, F, S, [], s, .nil, p⟩
end
end Z
end

section
set_option maxHeartbeats 1000000
/-! Z14: statements. -/
namespace Z
open PySem L2

def PostS (W : Wd) (E : XK) (α : Nat → Addr) (F : Hp) (S : Sto) (H : Hp) (r : RS) (D : Ends) : Prop :=
  match r with
  | .nx ρ S' => ∀ σ' α' F' H', Ext α F S H α' F' S' H' → Sr W α' F' S' H' → EnvR W α' F' S'.length ρ σ' → D.nx σ' H'
  | .bk ρ S' => ∀ σ' α' F' H', Ext α F S H α' F' S' H' → Sr W α' F' S' H' → EnvR W α' F' S'.length ρ σ' → D.bk σ' H'
  | .ct ρ S' => ∀ σ' α' F' H', Ext α F S H α' F' S' H' → Sr W α' F' S' H' → EnvR W α' F' S'.length ρ σ' → D.ct σ' H'
  | .rt v S' => ∀ w α' F' H', Ext α F S H α' F' S' H' → Sr W α' F' S' H' → VlR W α' F' S'.length v w → D.rt w H'
  | .exc e S' => ∀ c d α' F' H', Ext α F S H α' F' S' H' → Sr W α' F' S' H' → ExR W F' H' e c d → E c d H'
  | .bad => False
def tDS (W : Wd) (E : XK) (f : Env → Sto → RS) : TS := fun D σ H => ∃ α F ρ S, Sr W α F S H ∧ EnvR W α F S.length ρ σ ∧ PostS W E α F S H (f ρ S) D
theorem psI {X : Cx} {st : Stmt} {t t' : TS} (h : PS X st t) (k : ∀ D σ H, t' D σ H → t D σ H) : PS X st t' := ⟨fun pins s σ H D I q => h.run pins s σ H D I (k D σ H q)⟩
theorem pssI {X : Cx} {st : List Stmt} {t t' : TS} (h : PSs X st t) (k : ∀ D σ H, t' D σ H → t D σ H) : PSs X st t' := ⟨fun pins s σ H D I q => h.run pins s σ H D I (k D σ H q)⟩

section
variable {W : Wd} {E : XK} {α α' : Nat → Addr} {F F' : Hp} {S S' : Sto} {H H' : Hp} {τ β : Type} {Rel : (Nat → Addr) → Hp → Sto → Hp → τ → β → Prop}
theorem PostS.rebase {r : RS} {D : Ends} (x : Ext α F S H α' F' S' H') (p : PostS W E α F S H r D) : PostS W E α' F' S' H' r D := by
  cases r with
  | nx ρ S'' => exact fun σ α2 F2 H2 y s q => p σ α2 F2 H2 (x.trans y) s q
  | bk ρ S'' => exact fun σ α2 F2 H2 y s q => p σ α2 F2 H2 (x.trans y) s q
  | ct ρ S'' => exact fun σ α2 F2 H2 y s q => p σ α2 F2 H2 (x.trans y) s q
  | rt v S'' => exact fun σ α2 F2 H2 y s q => p σ α2 F2 H2 (x.trans y) s q
  | exc e S'' => exact fun c d α2 F2 H2 y s q => p c d α2 F2 H2 (x.trans y) s q
  | bad => exact p
def MidS (W : Wd) (E : XK) (Rel : (Nat → Addr) → Hp → Sto → Hp → τ → β → Prop) (α : Nat → Addr) (F : Hp) (S : Sto) (H : Hp) (g : τ → Sto → RS) (D : Ends) (w : β) (H1 : Hp) : Prop :=
  ∃ α1 F1 a S1, Ext α F S H α1 F1 S1 H1 ∧ Sr W α1 F1 S1 H1 ∧ Rel α1 F1 S1 H1 a w ∧ PostS W E α1 F1 S1 H1 (g a S1) D
theorem Post.thn {r : Res τ} {g : τ → Sto → RS} {D : Ends} (p : PostS W E α F S H (r.thn g) D) : Post W E Rel α F S H r (MidS W E Rel α F S H g D) := by
  cases r with
  | ok a S' => exact fun w α' F' H' x s q => ⟨α', F', a, S', x, s, q, PostS.rebase x p⟩
  | exc e S' => exact p
  | bad => exact p
theorem PostS.here {ρ : Env} {σ : L2.St} {D : Ends} (p : PostS W E α F S H (.nx ρ S) D) (s : Sr W α F S H) (er : EnvR W α F S.length ρ σ) : D.nx σ H := p σ α F H Ext.refl s er
end

section
variable {X : Cx} {W : Wd} {E : XK} {a b c e tg : Expr} {es : List Expr} {pos : Pos} {fa fb fc : Env → Sto → Res Vl} {fs : Env → Sto → Res (List Vl)} {st : Stmt} {sts : List Stmt}
variable {α : Nat → Addr} {F : Hp} {S : Sto} {H : Hp} {Q : VK} {x y : Vl} {v u : V} {g h : Env → Sto → RS}

theorem dss_nil : PSs X [] (tDS W E fun ρ S => .nx ρ S) := pssI pss_nil fun D σ H ⟨α, F, ρ, S, s, er, p⟩ => p.here s er
theorem dss_cons (h1 : PS X st (tDS W E g)) (h2 : PSs X sts (tDS W E h)) : PSs X (st :: sts) (tDS W E fun ρ S => (g ρ S).seq h) := by
  refine pssI (pss_cons h1 h2) fun D σ H ⟨α, F, ρ, S, s, er, p⟩ => ⟨α, F, ρ, S, s, er, ?_⟩
  dsimp only at p
  cases hg : g ρ S with
  | nx ρ' S' =>
    rw [hg] at p
    exact fun σ' α' F' H' x s' er' => ⟨α', F', ρ', S', s', er', PostS.rebase x p⟩
  | rt v S' => rw [hg] at p; exact p
  | bk ρ' S' => rw [hg] at p; exact p
  | ct ρ' S' => rw [hg] at p; exact p
  | exc ee S' => rw [hg] at p; exact p
  | bad => rw [hg] at p; exact p.elim
theorem ds_pass : PS X (.Pass pos) (tDS W E fun ρ S => .nx ρ S) := psI ps_pass fun D σ H ⟨α, F, ρ, S, s, er, p⟩ => p.here s er
theorem ds_break : PS X (.Break pos) (tDS W E fun ρ S => .bk ρ S) := psI ps_break fun D σ H ⟨α, F, ρ, S, s, er, p⟩ => p σ α F H Ext.refl s er
theorem ds_cont : PS X (.Continue pos) (tDS W E fun ρ S => .ct ρ S) := psI ps_continue fun D σ H ⟨α, F, ρ, S, s, er, p⟩ => p σ α F H Ext.refl s er
def retF (fa : Env → Sto → Res Vl) : Env → Sto → RS := fun ρ S => (fa ρ S).thn fun v S => .rt v S
theorem ds_ret (ha : PE X a (tD W E fa)) : PS X (.Return (some a) pos) (tDS W E (retF fa)) := psI (ps_ret ha) fun D σ H ⟨α, F, ρ, S, s, er, p⟩ =>
  ⟨α, F, ρ, S, s, er, (Post.thn (Rel := VlX W) p).imp fun v H1 ⟨α1, F1, x, S1, x1, s1, r1, p1⟩ => p1 v α1 F1 H1 Ext.refl s1 r1⟩
theorem ds_retN : PS X (.Return none pos) (tDS W E fun ρ S => (Res.ok (Vl.d .non) S).thn fun v S => .rt v S) := psI ps_retN fun D σ H ⟨α, F, ρ, S, s, er, p⟩ => p .non α F H Ext.refl s rfl
def exprF (fa : Env → Sto → Res Vl) : Env → Sto → RS := fun ρ S => (fa ρ S).thn fun _ S => .nx ρ S
theorem sw_not (h : isLc e = false) {t : Option Expr} {l : Nat} {env : PySem.Env} : swapsWith e t l env = pure false := by
  cases e <;> first | rfl | (simp [isLc] at h)
theorem swS_not (h : isLc e = false) {t : Expr} {l : Nat} {env : PySem.Env} : PySem.swapsWithSole [t] e l env = pure false := sw_not h
theorem ds_expr (hl : isLc a = false) (ha : PE X a (tD W E fa)) : PS X (.Expr a pos) (tDS W E (exprF fa)) := psI (ps_expr ha (sw_not hl)) fun D σ H ⟨α, F, ρ, S, s, er, p⟩ =>
  ⟨α, F, ρ, S, s, er, (Post.thn (Rel := VlX W) p).imp fun v H1 ⟨α1, F1, x, S1, x1, s1, r1, p1⟩ => p1.here s1 (er.ext x1)⟩
def asgF (t : Tg) (fa : Env → Sto → Res Vl) : Env → Sto → RS := fun ρ S => (fa ρ S).thn fun v S => match bindT t v ρ with
    | some ρ => .nx ρ S
    | none => .bad
theorem asg_go {t : Tg} {D : Ends} {ρ : Env} {σ : L2.St} (s : Sr W α F S H) (er : EnvR W α F S.length ρ σ) (r : VlR W α F S.length x v) (p : PostS W E α F S H (match bindT t x ρ with | some ρ => .nx ρ S | none => .bad) D) : gD W t v σ H D.nx := by
  cases hb : bindT t x ρ with
  | none => rw [hb] at p; exact p.elim
  | some ρ' =>
    rw [hb] at p
    exact ⟨α, F, S, x, ρ, ρ', s, er, r, hb, fun σ' st => p.here s st.env⟩
theorem ds_asg {t : Tg} (hl : PySem.swapsWithSole [tg] a pos.line X.env = pure false) (hw : swappedStores [tg] a X.env = pure none) (hn : notStar tg = true) (ha : PE X a (tD W E fa)) (hg : PG X tg (gD W t)) : PS X (.Assign [tg] a pos) (tDS W E (asgF t fa)) :=
  psI (ps_asg ha hg hl hw (by rw [asg_cons hn]; rfl)) fun D σ H ⟨α, F, ρ, S, s, er, p⟩ =>
    ⟨α, F, ρ, S, s, er, (Post.thn (Rel := VlX W) p).imp fun v H1 ⟨α1, F1, x, S1, x1, s1, r1, p1⟩ => asg_go s1 (er.ext x1) r1 p1⟩
/-- x = [..] -/
theorem ds_asgLc {iter elt : Expr} {ifs : List Expr} {scope : Scope} {own : List (Str × Nat)} {cell : Bool} {t : Tg} {fi : Env → Sto → Res (List Vl × Option (Nat × Cell))} {fcond : Env → Sto → Res Bool} {fe : Env → Sto → Res Vl} {i : Nat} {n : Str} {py pos' : Pos}
    (hc : X.calm = true) (hN : X.N.Nodup) (hy : X.N[i]? = some n) (hyl : X.env.scope.names.lookup n = some .local) (hsw : swapsWith (.ListComp elt [⟨tg, iter, ifs, 0⟩] scope pos) (some (.Name n py)) pos'.line X.env = pure true)
    (hi : PI X tg iter (tDI W E fi)) (ok : BlkOk X.N X.env.scope scope own)
    (hg : ∀ (s : Shared) (H : Hp) (C : Addr) (cl : List (Str × Addr)) (fp : List Addr), PG (X.blk s H scope (compEnvC scope cl C X.env) fp) tg (gD W t))
    (ht : ∀ (s : Shared) (H : Hp) (C : Addr) (cl : List (Str × Addr)) (fp : List Addr), PTs (X.blk s H scope (compEnvC scope cl C X.env) fp) ifs (tDT W E0 fcond))
    (he : ∀ (s : Shared) (H : Hp) (C : Addr) (cl : List (Str × Addr)) (fp : List Addr), PE (X.blk s H scope (compEnvC scope cl C X.env) fp) elt (tD W E0 fe))
    (hs : ∀ x, foldedSetIterable iter X.env x = pure x) (hsub : ∀ i ∈ t.slots, i ∈ own.map (·.2)) :
    PS X (.Assign [.Name n py] (.ListComp elt [⟨tg, iter, ifs, 0⟩] scope pos) pos') (tDS W E (asgF (.var i) (lcAll cell t (own.map (·.2)) fi fcond fe))) :=
  psI (ps_setLc hc hN hy hyl hsw hi ok hg ht he hs) fun D σ H ⟨α, F, ρ, S, s, er, p⟩ => lc_read hsub ⟨α, F, ρ, S, s, er, (Post.thn (Rel := VlX W) p).imp fun v H1 ⟨α1, F1, x, S1, x1, s1, r1, p1⟩ => p1.here s1 ((er.ext x1).set r1 i)⟩

/-! ### stores -/
def subF (fo fi fe : Env → Sto → Res Vl) : Env → Sto → RS := fun ρ S => (fe ρ S).thn fun v S => (fo ρ S).thn fun x S => (fi ρ S).thn fun k S => match setItem x k v S with
    | some S => .nx ρ S
    | none => .bad
theorem VlRs.setI {xs : List Vl} {vs : List V} {N : Nat} (r : VlRs W α F N xs vs) (q : VlR W α F N x v) (i : Nat) : VlRs W α F N (xs.set i x) (vs.set i v) := r.set q i
theorem set_plain {o i : Expr} {p1 : Pos} (h : isSl i = false) {env : PySem.Env} (v : Value) : assign (.Subscript o i p1) env v = (do
      let ov ← holding [v] (eval o env)
      let iv ← holding [v, ov] (eval i env)
      standAt p1
      holding [v, ov, iv] (PySem.setItem ov iv v)
      release [v, ov, iv] []) := by
  cases i <;> first | rfl | (simp [isSl] at h)
theorem ds_sub {o i : Expr} {p1 : Pos} {fo fi fe : Env → Sto → Res Vl} (hl : isLc e = false) (hsl : isSl i = false) (ho : PE X o (tD W E fo)) (hi : PE X i (tD W E fi)) (he : PE X e (tD W E fe)) : PS X (.Assign [.Subscript o i p1] e pos) (tDS W E (subF fo fi fe)) := by
  refine psI (ps_asg he (pg_sub ho hi set_list fun v => set_plain hsl v) (swS_not hl)) fun D σ H ⟨α, F, ρ, S, s, er, p⟩ =>
    ⟨α, F, ρ, S, s, er, (Post.thn (Rel := VlX W) p).imp fun v H1 ⟨α1, F1, x, S1, x1, s1, r1, p1⟩ => ⟨α1, F1, ρ, S1, s1, er.ext x1, (Post.thn (Rel := VlX W) p1).imp fun o H2 ⟨α2, F2, y, S2, x2, s2, r2, p2⟩ =>
      ⟨α2, F2, ρ, S2, s2, (er.ext x1).ext x2, (Post.thn (Rel := VlX W) p2).imp fun k H3 ⟨α3, F3, z, S3, x3, s3, r3, p3⟩ => ?_⟩⟩⟩
  have r1 := r1.ext (x2.trans x3)
  have r2 := r2.ext x3
  have er3 := ((er.ext x1).ext x2).ext x3
  cases y with
  | d y => exact p3.elim
  | p n =>
    cases z with
    | p m => exact p3.elim
    | d z =>
      obtain ⟨rfl, hlt⟩ := (show o = .ref (α3 n) ∧ n < S3.length from r2)
      dsimp only [setItem] at p3
      cases hn : S3[n]? with
      | none => rw [hn] at p3; exact p3.elim
      | some c =>
        rw [hn] at p3
        cases c with
        | lst xs =>
          cases z with
          | int j =>
            simp only at p3
            cases hj : ixN xs.length j with
            | none => rw [hj] at p3; exact p3.elim
            | some jj =>
              rw [hj] at p3
              obtain ⟨vs, hv, rr⟩ := s3.cel n _ hn
              obtain ⟨s', x'⟩ := s3.setC (n := n) (o := .lst (vs.set jj v)) (c := .lst (xs.set jj x)) ⟨_, hn, fun z => nomatch z⟩ ⟨_, upd_same, rr.set r1 jj⟩
              exact ⟨α3 n, vs, j, jj, rfl, r3, hv, by rw [← rr.length]; exact hj, p3 σ α3 F3 _ x' s' (er3.ext x')⟩
          | _ => exact p3.elim
        | dct kvs => exact (s3.cel n _ hn).elim
        | _ => exact p3.elim
theorem in_aug {op : Operator} {o : Op} (ho : cOp op = some o) : ∃ ti : TIp, PIp X op ti ∧ ∀ {α F S H x y v u} {Q : VK}, Sr W α F S H → VlR W α F S.length x v → VlR W α F S.length y u → Post W E (VlX W) α F S H (augop o x y S) Q → ti v u H Q := by
  cases op <;> simp [cOp] at ho <;> subst ho
  · refine ⟨_, (iop_add (X := X)).or (iop_add_str (X := X)), fun {α F S H x y v u Q} s rx ry p => ?_⟩
    cases x with
    | p n => exact p.elim
    | d x =>
      cases x with
      | int i =>
        cases y with
        | p n => exact p.elim
        | d y =>
          cases y with
          | int j => exact .inl ⟨i, j, rx, ry, p.here s rfl⟩
          | _ => exact p.elim
      | str i =>
        cases y with
        | p n => exact p.elim
        | d y =>
          cases y with
          | str j =>
            have p : Post W E (VlX W) α F S H (if decide (i.length + j.length ≤ most) then .ok (.d (.str (i ++ j))) S else .bad) Q := p
            by_cases hz : i.length + j.length ≤ most
            · rw [if_pos (by simpa using hz)] at p
              refine .inr ⟨_, _, rx, ry, by rw [str_len, str_len, ← most_eq]; exact hz, ?_⟩
              rw [str_app]
              exact p.here s rfl
            · rw [if_neg (by simpa using hz)] at p
              exact p.elim
          | _ => exact p.elim
      | _ => exact p.elim
  · exact ⟨_, iop_sub (X := X), fun s rx ry p => by
      obtain ⟨i, j, e1, e2, _, q⟩ := bin_int (C := fun _ _ => True) (fun _ _ _ => trivial) s rx ry p
      exact ⟨i, j, e1, e2, q⟩⟩
  · exact ⟨_, iop_mul (X := X), fun s rx ry p => bin_int (fun _ _ h => cMul_iff.mp h) s rx ry p⟩
  · exact ⟨_, iop_mod (X := X), fun s rx ry p => bin_int (fun _ _ h => of_decide_eq_true h) s rx ry p⟩
  · exact ⟨fun _ _ _ _ => False, fun _ _ _ _ _ _ _ _ _ _ _ _ q => q.elim, fun s rx ry p => p⟩
  · exact ⟨_, iop_shl (X := X), fun s rx ry p => bin_int (fun _ _ h => cPow_iff.mp h) s rx ry p⟩
  · exact ⟨_, iop_fdiv (X := X), fun s rx ry p => bin_int (fun i j h => by
      rw [Bool.and_eq_true] at h
      exact ⟨of_decide_eq_true h.1, of_decide_eq_true h.2⟩) s rx ry p⟩
def augF (i : Nat) (o : Op) (fe : Env → Sto → Res Vl) : Env → Sto → RS := fun ρ S => (pick ((ρ[i]?).bind id) S).thn fun x S => (fe ρ S).thn fun y S => (augop o x y S).thn fun z S => .nx (ρ.set i (some z)) S
theorem ds_aug {op : Operator} {o : Op} {i : Nat} {n : Str} {p1 : Pos} {fe : Env → Sto → Res Vl} (ho : cOp op = some o) (hN : X.N.Nodup) (hi : X.N[i]? = some n) (hx : Loc X.env.scope n) (hf : X.fn n = true ∨ X.env.scope.names.lookup n = some .local) (he : PE X e (tD W E fe)) :
    PS X (.AugAssign (.Name n p1) op e pos) (tDS W E (augF i o fe)) := by
  obtain ⟨ti, h1, h2⟩ := in_aug (X := X) (W := W) (E := E) ho
  refine psI (ps_aug hN hi hx he h1 hf) fun D σ H ⟨α, F, ρ, S, s, er, p⟩ => ?_
  have p : PostS W E α F S H ((pick ((ρ[i]?).bind id) S).thn fun x S => (fe ρ S).thn fun y S => (augop o x y S).thn fun z S => .nx (ρ.set i (some z)) S) D := p
  cases q : (ρ[i]?).bind id with
  | none => rw [q] at p; exact p.elim
  | some x =>
    rw [q] at p
    have q' : ρ[i]? = some (some x) := by
      cases z : ρ[i]? with
      | none => rw [z] at q; cases q
      | some o => rw [z] at q; exact congrArg some q
    obtain ⟨w, ew, r⟩ := er.at_ i x q'
    have p : PostS W E α F S H ((fe ρ S).thn fun y S => (augop o x y S).thn fun z S => .nx (ρ.set i (some z)) S) D := p
    refine ⟨w, ew, α, F, ρ, S, s, er, (Post.thn (Rel := VlX W) p).imp fun u H1 ⟨α1, F1, y, S1, x1, s1, r1, p1⟩ => h2 s1 (r.ext x1) r1 ((Post.thn (Rel := VlX W) p1).imp fun z H2 ⟨α2, F2, zz, S2, x2, s2, r2, p2⟩ => ?_)⟩
    exact p2.here s2 (((er.ext x1).ext x2).set r2 i)

/-! ### branches, loops -/
def ifF (fc : Env → Sto → Res Vl) (g h : Env → Sto → RS) : Env → Sto → RS := fun ρ S => (fc ρ S).thn fun x S => (tru x S).thn fun k S => if k then g ρ S else h ρ S
theorem thn_tru {r : Res Vl} {g : Bool → Sto → RS} : (r.thn fun x S => (tru x S).thn g) = (r.bind tru).thn g := by
  cases r <;> rfl
theorem ds_if {as bs : List Stmt} (hc : PT X c (tDT W E fun ρ S => (fc ρ S).bind tru)) (ha : PSs X as (tDS W E g)) (hb : PSs X bs (tDS W E h)) : PS X (.If c as bs pos) (tDS W E (ifF fc g h)) := by
  refine psI (ps_if hc ha hb) fun D σ H ⟨α, F, ρ, S, s, er, p⟩ => ?_
  have p : PostS W E α F S H ((fc ρ S).thn fun x S => (tru x S).thn fun k S => if k then g ρ S else h ρ S) D := p
  rw [thn_tru] at p
  refine ⟨α, F, ρ, S, s, er, (Post.thn (Rel := RelE) p).imp fun k H1 ⟨α1, F1, k', S1, x1, s1, r1, p1⟩ => ?_⟩
  cases (show k' = k from r1)
  cases k with
  | true => exact ⟨α1, F1, ρ, S1, s1, er.ext x1, p1⟩
  | false => exact ⟨α1, F1, ρ, S1, s1, er.ext x1, p1⟩
theorem ds_while {fuel : Nat} {bs : List Stmt} (hp : PassesOwn (model X.prog X.w) X.A X.env X.xe) (hc : PT X c (tDT W E fun ρ S => (fc ρ S).bind tru)) (hb : PSs X bs (tDS W E g)) : PS X (.While c bs [] pos) (tDS W E fun ρ S => whl (fun ρ S => (fc ρ S).bind tru) g fuel ρ S) := by
  refine psI (ps_while hp hc hb) fun D σ H ⟨α, F, ρ, S, s, er, p⟩ => ?_
  have p : PostS W E α F S H (whl (fun ρ S => (fc ρ S).bind tru) g fuel ρ S) D := p
  generalize hfull : whl (fun ρ S => (fc ρ S).bind tru) g fuel ρ S = full at p
  refine ⟨fun m σ' H' => ∃ αc Fc ρc Sc, Ext α F S H αc Fc Sc H' ∧ Sr W αc Fc Sc H' ∧ EnvR W αc Fc Sc.length ρc σ' ∧ whl (fun ρ S => (fc ρ S).bind tru) g m ρc Sc = full, ⟨fuel, α, F, ρ, S, Ext.refl, s, er, hfull⟩, ?_⟩
  rintro m σ' H' ⟨αc, Fc, ρc, Sc, x1, s1, er1, hf⟩
  have p1 : PostS W E αc Fc Sc H' full D := PostS.rebase x1 p
  cases m with
  | zero => rw [← hf] at p1; exact p1.elim
  | succ m =>
    rw [← hf] at p1
    unfold whl at p1
    refine ⟨αc, Fc, ρc, Sc, s1, er1, ?_⟩
    show Post W E RelE αc Fc Sc H' ((fc ρc Sc).bind tru) _
    cases hcd : (fc ρc Sc).bind tru with
    | bad => rw [hcd] at p1; exact p1.elim
    | exc ee S' => rw [hcd] at p1; exact p1
    | ok k S2 =>
      rw [hcd] at p1
      show ∀ _ _ _ _, _
      intro k' α2 F2 H2 x2 s2 ek
      cases (show k = k' from ek)
      have p2 : PostS W E α2 F2 S2 H2 (if k = true then (match g ρc S2 with
        | .nx ρ S => whl (fun ρ S => (fc ρ S).bind tru) g m ρ S
        | .ct ρ S => whl (fun ρ S => (fc ρ S).bind tru) g m ρ S
        | .bk ρ S => .nx ρ S
        | r => r) else .nx ρc S2) D := PostS.rebase x2 p1
      unfold whl at hf
      rw [hcd] at hf
      have er2 := er1.ext x2
      cases k with
      | false =>
        rw [if_neg Bool.false_ne_true]
        rw [if_neg Bool.false_ne_true] at p2
        exact p2.here s2 er2
      | true =>
        rw [if_pos rfl]
        rw [if_pos rfl] at p2
        have hf : (match g ρc S2 with
          | .nx ρ S => whl (fun ρ S => (fc ρ S).bind tru) g m ρ S
          | .ct ρ S => whl (fun ρ S => (fc ρ S).bind tru) g m ρ S
          | .bk ρ S => .nx ρ S
          | r => r) = full := hf
        refine ⟨fun σ' H' => ∃ αc Fc ρc Sc, Ext α F S H αc Fc Sc H' ∧ Sr W αc Fc Sc H' ∧ EnvR W αc Fc Sc.length ρc σ' ∧ whl (fun ρ S => (fc ρ S).bind tru) g m ρc Sc = full, fun σ' H' w => ⟨m, Nat.lt_succ_self _, w⟩, α2, F2, ρc, S2, s2, er2, ?_⟩
        cases hg : g ρc S2 with
        | nx ρ3 S3 =>
          rw [hg] at hf
          exact fun σ3 α3 F3 H3 x3 s3 er3 => ⟨α3, F3, ρ3, S3, (x1.trans x2).trans x3, s3, er3, hf⟩
        | ct ρ3 S3 =>
          rw [hg] at hf
          exact fun σ3 α3 F3 H3 x3 s3 er3 => ⟨α3, F3, ρ3, S3, (x1.trans x2).trans x3, s3, er3, hf⟩
        | bk ρ3 S3 => rw [hg] at p2; exact p2
        | rt v S3 => rw [hg] at p2; exact p2
        | exc ee S3 => rw [hg] at p2; exact p2
        | bad => rw [hg] at p2; exact p2.elim
def forF (t : Tg) (fi : Env → Sto → Res (List Vl × Option (Nat × Cell))) (g : Env → Sto → RS) : Env → Sto → RS := fun ρ S => (fi ρ S).thn fun q S => (fors g t q.1 ρ (lock S q.2)).mapS fun S => unlock S q.2
theorem ds_for {iter : Expr} {bs : List Stmt} {t : Tg} {fi : Env → Sto → Res (List Vl × Option (Nat × Cell))} (hp : PassesOwn (model X.prog X.w) X.A X.env X.xe) (hc : X.calm = true) (hi : PI X tg iter (tDI W E fi)) (hg : PG X tg (gD W t)) (hb : PSs X bs (tDS W E g))
    (hs : ∀ x, foldedSetIterable iter X.env x = pure x) : PS X (.For tg iter bs [] pos) (tDS W E (forF t fi g)) := by
  refine psI (ps_for hp hc hi hg hb hs) fun D σ H ⟨α, F, ρ, S, s, er, p⟩ => ⟨α, F, ρ, S, s, er, (Post.thn (Rel := WalkR W) p).imp fun J H1 ⟨α1, F1, q, S1, x1, s1, ⟨wk, lkok⟩, p1⟩ => ?_⟩
  obtain ⟨xs, lk⟩ := q
  dsimp only at wk lkok p1
  have s1l : Sr W α1 F1 (lock S1 lk) H1 := lock_sr s1 fun n c h => (lkok n c h).1
  have e1 : EnvR W α1 F1 (lock S1 lk).length ρ σ := by rw [lock_len]; exact er.ext x1
  have ulen : ∀ (S : Sto), (unlock S lk).length = S.length := fun S => by cases lk <;> simp [unlock]
  generalize hfull : fors g t xs ρ (lock S1 lk) = full at p1
  -- what the loop's ends mean once the lock is gone
  have outN : ∀ {ρ' S' σ' α' F' H'}, full = .nx ρ' S' → Ext α1 F1 (lock S1 lk) H1 α' F' S' H' → Sr W α' F' S' H' → EnvR W α' F' S'.length ρ' σ' → D.nx σ' H' := fun {ρ' S' σ' α' F' H'} e x s' er' => by
    rw [e] at p1
    obtain ⟨s6, x6⟩ := unlock_opt s1 lkok x s'
    exact p1 σ' α' F' H' x6 s6 (by rw [ulen]; exact er')
  refine ⟨fun i m σ' H' => m = xs.length - i ∧ i ≤ xs.length ∧ ∃ αc Fc ρc Sc, Ext α1 F1 (lock S1 lk) H1 αc Fc Sc H' ∧ Sr W αc Fc Sc H' ∧ EnvR W αc Fc Sc.length ρc σ' ∧ fors g t (xs.drop i) ρc Sc = full,
    ⟨xs.length, rfl, Nat.zero_le _, α1, F1, ρ, lock S1 lk, Ext.refl, s1l, e1, hfull⟩, ?_⟩
  rintro i m σ' H' ⟨rfl, hi', αc, Fc, ρc, Sc, x2, s2, er2, hf2⟩
  by_cases hlt : i < xs.length
  · have hx : xs[i]? = some xs[i] := List.getElem?_eq_getElem hlt
    obtain ⟨go, yl⟩ := wk.turn i xs[i] hx αc Fc Sc H' x2 s2
    rw [List.drop_eq_getElem_cons hlt] at hf2
    unfold fors at hf2
    refine .inr ⟨go, fun σ'' H'' => xs.length - (i + 1) = xs.length - (i + 1) ∧ i + 1 ≤ xs.length ∧ ∃ αc Fc ρc Sc, Ext α1 F1 (lock S1 lk) H1 αc Fc Sc H'' ∧ Sr W αc Fc Sc H'' ∧ EnvR W αc Fc Sc.length ρc σ'' ∧ fors g t (xs.drop (i + 1)) ρc Sc = full, fun σ'' H'' w => ⟨_, by omega, w⟩, fun v H2 y => ?_⟩
    obtain ⟨F2, x3, s3, r3⟩ := yl v H2 y
    have e3 := er2.ext x3
    cases hb : bindT t xs[i] ρc with
    | none =>
      rw [hb] at hf2
      rw [← hf2] at p1
      exact p1.elim
    | some ρ' =>
      rw [hb] at hf2
      simp only at hf2
      refine ⟨αc, F2, Sc, xs[i], ρc, ρ', s3, e3, r3, hb, fun σ'' st => ⟨αc, F2, ρ', Sc, s3, st.env, ?_⟩⟩
      have x23 := x2.trans x3
      cases hgg : g ρ' Sc with
      | nx ρ3 S3 =>
        rw [hgg] at hf2
        exact fun σ3 α3 F3 H3 x4 s4 er4 => ⟨rfl, hlt, α3, F3, ρ3, S3, x23.trans x4, s4, er4, hf2⟩
      | ct ρ3 S3 =>
        rw [hgg] at hf2
        exact fun σ3 α3 F3 H3 x4 s4 er4 => ⟨rfl, hlt, α3, F3, ρ3, S3, x23.trans x4, s4, er4, hf2⟩
      | bk ρ3 S3 =>
        rw [hgg] at hf2
        exact fun σ3 α3 F3 H3 x4 s4 er4 => outN hf2.symm (x23.trans x4) s4 er4
      | rt v S3 =>
        rw [hgg] at hf2
        intro w α3 F3 H3 x4 s4 r4
        rw [← hf2] at p1
        obtain ⟨s6, x6⟩ := unlock_opt s1 lkok (x23.trans x4) s4
        exact p1 w α3 F3 H3 x6 s6 (by rw [ulen]; exact r4)
      | exc ee S3 =>
        rw [hgg] at hf2
        intro c d α3 F3 H3 x4 s4 r4
        rw [← hf2] at p1
        obtain ⟨s6, x6⟩ := unlock_opt s1 lkok (x23.trans x4) s4
        exact p1 c d α3 F3 H3 x6 s6 r4
      | bad =>
        rw [hgg] at hf2
        rw [← hf2] at p1
        exact p1.elim
  · have hi2 : i = xs.length := by omega
    subst hi2
    rw [List.drop_length] at hf2
    unfold fors at hf2
    exact .inl ⟨wk.done αc Fc Sc H' x2 s2, outN hf2.symm x2 s2 er2⟩
/-- cells become data -/
def frzF (is : List Nat) (f : Env → Sto → RS) : Env → Sto → RS := fun ρ S => match frz is ρ S with
    | some (ρ, S) => f ρ S
    | none => .bad
theorem frz_read {H : Hp} {σ : L2.St} : ∀ (is : List Nat) {α F ρ S}, Sr W α F S H → EnvR W α F S.length ρ σ → ∀ {ρ' S'}, frz is ρ S = some (ρ', S') → ∃ F', Ext α F S H α F' S' H ∧ Sr W α F' S' H ∧ EnvR W α F' S'.length ρ' σ
  | [], α, F, ρ, S, s, er, ρ', S', h => by
    simp only [frz, Option.some.injEq, Prod.mk.injEq] at h
    obtain ⟨rfl, rfl⟩ := h
    exact ⟨F, Ext.refl, s, er⟩
  | i :: is, α, F, ρ, S, s, er, ρ', S', h => by
    unfold frz at h
    cases q : (ρ[i]?).bind id with
    | none => rw [q] at h; exact frz_read is s er h
    | some v =>
      rw [q] at h
      have q' : ρ[i]? = some (some v) := by
        cases z : ρ[i]? with
        | none => rw [z] at q; cases q
        | some o => rw [z] at q; exact congrArg some q
      obtain ⟨w, ew, r⟩ := er.at_ i v q'
      dsimp only at h
      have setv : ∀ {F1 S1 d}, Ext α F S H α F1 S1 H → Rp W F1 d w → EnvR W α F1 S1.length (ρ.set i (some (.d d))) σ := fun {F1 S1 d} x rp => by
        have := EnvR.set (v := .d d) (w := w) (er.ext x) rp i
        have e : σ.set i (some w) = σ := by
          apply List.ext_getElem?
          intro j
          by_cases hij : i = j
          · subst hij
            rw [List.getElem?_set_self (List.getElem?_eq_some_iff.mp ew).1, ew]
          · rw [List.getElem?_set_ne hij]
        rw [e] at this
        exact this
      cases v with
      | d x =>
        simp only [freeze] at h
        have er2 := setv (d := x) Ext.refl r
        exact frz_read is s er2 h
      | p n =>
        cases hn : S[n]? with
        | none => simp [freeze, hn] at h
        | some c =>
          cases c with
          | lst xs =>
            cases hp : pures xs with
            | none => simp [freeze, hn, hp] at h
            | some ds =>
              simp only [freeze, hn, hp] at h
              obtain ⟨F1, s1, x1, rp⟩ := s.frzC hn hp
              obtain ⟨F2, x2, s2, e2⟩ := frz_read is s1 (setv (d := .lst ds) x1 (by rw [r.1]; exact rp)) h
              exact ⟨F2, x1.trans x2, s2, e2⟩
          | _ => simp [freeze, hn] at h
theorem ds_frz {is : List Nat} (h : PS X st (tDS W E g)) : PS X st (tDS W E (frzF is g)) := psI h fun D σ H ⟨α, F, ρ, S, s, er, p⟩ => by
  unfold frzF at p
  cases hq : frz is ρ S with
  | none => rw [hq] at p; exact p.elim
  | some q =>
    obtain ⟨ρ', S'⟩ := q
    rw [hq] at p
    obtain ⟨F', x, s', er'⟩ := frz_read is s er hq
    exact ⟨α, F', ρ', S', s', er', PostS.rebase x p⟩
end
end Z
end

section
set_option maxHeartbeats 1000000
/-! Z15: the compiled expressions say what the text does. -/
namespace Z
open PySem L2

theorem _root_.L2.Room.u100 {k : Nat} {A : Around} (r : Room k A) : A.units + 100 < cLine := by have := r.un; omega
/-- what is known where a piece of text runs -/
structure Cxt (X : Cx) (C : Cs) (W : Wd) (G : Gm) (rc : Nat → List Vl → Sto → Res Vl) (E : XK) (T : CXT) (k : Nat) : Prop where
  K : W.K = X.K
  calm : X.calm = true
  sc : X.env.scope = C.sc
  N : X.N = C.N
  nd : C.N.Nodup
  fn : ∀ x, Loc C.sc x → ownB C.wr x = true → X.fn x = true ∨ C.sc.names.lookup x = some .local
  room : Room k X.A
  gb : ∀ x, x ∈ C.gb → X.mg x = none
  gd : ∀ x f, C.gd.lookup x = some f → ∃ fd ps, FnOk X.prog X.w X.K X.mg X.base T k (W.fa f) fd ps (spF W rc f) ∧ X.mg x = some (.ref (W.fa f)) ∧ PySem.W.keepIn X.K (.ref (W.fa f)) = true ∧ Binds X.K fd ps []
  gc : ∀ x g, C.gc.lookup x = some g → ∃ v u, X.mg x = some u ∧ RelV v u ∧ ∀ F, Rp W F (G.con g) v
  pas : Passes T X E
  pas0 : ∀ X', Passes T X' E0
  own : PassesOwn (model X.prog X.w) X.A X.env X.xe

section
variable {X : Cx} {C : Cs} {W : Wd} {G : Gm} {rc : Nat → List Vl → Sto → Res Vl} {E : XK} {T : CXT} {k : Nat}
theorem findN_at {N : List Str} {x : Str} {i : Nat} (h : findN N x = some i) : N[i]? = some x := by
  unfold findN at h
  obtain ⟨hl, hp, _⟩ := List.findIdx?_eq_some_iff_getElem.mp h
  rw [List.getElem?_eq_getElem hl, beq_iff_eq.mp hp]
theorem vis_of {sc : Scope} {x : Str} (h : visB sc x = true) : Vis sc x := by
  unfold visB at h
  split at h
  · rename_i e; exact .inl e
  · rename_i e; exact .inr (.inl e)
  · rename_i e; exact .inr (.inr e)
  · cases h
theorem loc_of {sc : Scope} {x : Str} (h : locB sc x = true) : Loc sc x := by
  unfold locB at h
  split at h
  · rename_i e; exact .inl e
  · rename_i e; exact .inr e
  · cases h
theorem glb_of {sc : Scope} {x : Str} (h : glB sc x = true) : sc.names.lookup x = some .globalImplicit := by
  unfold glB at h
  split at h
  · assumption
  · cases h
theorem Cxt.gl (cx : Cxt X C W G rc E T k) {x : Str} (h : glB C.sc x = true) : Gl X x := by
  show X.env.scope.names.lookup x = _
  rw [cx.sc]; exact glb_of h
theorem not_beq {x y : Str} (h : (!(x == y)) = true) : (x == y) = false := by
  cases e : x == y <;> simp [e] at h ⊢
structure Blt (X : Cx) (x : Str) : Prop where
  g : Gl X x
  m : X.mg x = none
  n : x ≠ "__name__"
  d : (x == ("__debug__" : Str)) = false
theorem Cxt.blt (cx : Cxt X C W G rc E T k) {x : Str} (h : bltB C x = true) : Blt X x := by
  unfold bltB at h
  simp only [Bool.and_eq_true] at h
  exact ⟨cx.gl h.1.1.1, cx.gb x (by simpa using h.1.1.2), fun e => by rw [e] at h; exact absurd h.2 (by decide), not_beq h.1.2⟩
theorem relS_loc {scope sc : Scope} {x : Str} (h : locB scope x = true) : scope.names.lookup x = some .cell ∨ (relS scope sc).names.lookup x = some .local := by
  rcases loc_of h with e | e
  · exact .inr (lookup_relS_keep (by decide) e)
  · exact .inl e
/-- inside a comprehension -/
theorem Cxt.blk (cx : Cxt X C W G rc E T k) (scope : Scope) (s : Shared) (H : Hp) (A : Addr) (cl : List (Str × Addr)) (fp : List Addr) :
    Cxt (X.blk s H scope (compEnvC scope cl A X.env) fp) { C with sc := relS scope C.sc, wr := some scope } W G rc E0 T k where
  K := cx.K
  calm := cx.calm
  sc := by show relS scope X.env.scope = _; rw [cx.sc]
  N := cx.N
  nd := cx.nd
  fn := fun x _ h => (relS_loc (scope := scope) h).imp (fun e => by show (scope.names.lookup x == some .cell) = true; rw [e]; rfl) id
  room := cx.room
  gb := cx.gb
  gd := cx.gd
  gc := cx.gc
  pas := cx.pas0 _
  pas0 := cx.pas0
  own := PySem.PassesOwn.never
theorem Cxt.tg (cx : Cxt X C W G rc E T k) : ∀ n, (∀ {e : Expr} {t : Tg}, cTg C n e = some t → PG X e (gD W t) ∧ notStar e = true) ∧ (∀ {es : List Expr} {ts : List Tg}, cTgs C n es = some ts → PGs X es (gDs W ts) ∧ ts.length = es.length)
  | 0 => by
    refine ⟨fun {e t} h => ?_, fun {es ts} h => ?_⟩
    · rw [cTg.eq_def] at h
      cases h
    · cases es with
      | nil => rw [cTgs.eq_def] at h; cases h; exact ⟨dgs_nil, rfl⟩
      | cons e es => rw [cTgs.eq_def] at h; cases h
  | n + 1 => by
    obtain ⟨i1, i2⟩ := Cxt.tg cx n
    refine ⟨fun {e t} h => ?_, fun {es ts} h => ?_⟩
    · rw [cTg.eq_def] at h
      cases e with
      | Name x p =>
        dsimp only at h
        cases hf : findN C.N x with
        | none => rw [hf] at h; cases h
        | some i =>
          rw [hf] at h
          dsimp only at h
          split at h
          · rename_i hb
            rw [Bool.and_eq_true] at hb
            cases h
            refine ⟨dg_var (by rw [cx.N]; exact cx.nd) (by rw [cx.N]; exact findN_at hf) (by rw [cx.sc]; exact loc_of hb.1) (by rw [cx.sc]; exact cx.fn x (loc_of hb.1) hb.2), rfl⟩
          · cases h
      | Tuple es k p =>
        dsimp only at h
        split at h
        · rename_i hs
          cases hq : cTgs C n es with
          | none => rw [hq] at h; cases h
          | some ts =>
            rw [hq] at h
            cases h
            obtain ⟨j1, j2⟩ := i2 hq
            exact ⟨dg_tup cx.K cx.calm hs j1 j2, rfl⟩
        · cases h
      | _ => cases h
    · rw [cTgs.eq_def] at h
      cases es with
      | nil => cases h; exact ⟨dgs_nil, rfl⟩
      | cons e es =>
        dsimp only at h
        cases h1 : cTg C n e with
        | none => rw [h1] at h; cases h
        | some t =>
          cases h2 : cTgs C n es with
          | none => rw [h1, h2] at h; cases h
          | some ts =>
            rw [h1, h2] at h
            cases h
            obtain ⟨a1, a2⟩ := i1 h1
            obtain ⟨b1, b2⟩ := i2 h2
            exact ⟨dgs_cons a2 a1 b1, by simp [b2]⟩
end

def POk (n : Nat) : Prop := ∀ {X : Cx} {C : Cs} {W : Wd} {G : Gm} {rc : Nat → List Vl → Sto → Res Vl} {E : XK} {T : CXT} {k : Nat} (cx : Cxt X C W G rc E T k) {cell : Bool} {e : Expr} {c : Ex}, cE C n cell e = some c →
  PE X e (tD W E (ev G rc c)) ∧ PT X e (tDT W E fun ρ S => (ev G rc c ρ S).bind tru)
def IOk (n : Nat) : Prop := ∀ {X : Cx} {C : Cs} {W : Wd} {G : Gm} {rc : Nat → List Vl → Sto → Res Vl} {E : XK} {T : CXT} {k : Nat} (cx : Cxt X C W G rc E T k) {tg e : Expr} {k : Ik} {its : List Ex}, cE.cIt C n e = some (k, its) → tgOk tg k = true →
  PI X tg e (tDI W E fun ρ S => (evs G rc its ρ S).bind (walkF k))

section
variable {X : Cx} {C : Cs} {W : Wd} {G : Gm} {rc : Nat → List Vl → Sto → Res Vl} {E : XK} {T : CXT} {k n : Nat}
theorem seqO_cons {α : Type} {o : Option α} {os : List (Option α)} {xs : List α} (h : seqO (o :: os) = some xs) : ∃ y ys, o = some y ∧ seqO os = some ys ∧ xs = y :: ys := by
  unfold seqO at h
  cases o with
  | none => cases h
  | some y =>
    cases q : seqO os with
    | none => rw [q] at h; cases h
    | some ys => rw [q] at h; cases h; exact ⟨y, ys, rfl, rfl, rfl⟩
theorem args_ok (ih : POk n) (cx : Cxt X C W G rc E T k) : ∀ {es : List Expr} {as : List Ex}, es.all notStar = true → seqO (es.map (cE C n false)) = some as → PA X es (tDA W E (evs G rc as))
  | [], as, _, h => by cases h; exact da_nil
  | e :: es, as, hs, h => by
    rw [List.all_cons, Bool.and_eq_true] at hs
    obtain ⟨y, ys, h1, h2, rfl⟩ := seqO_cons h
    exact da_cons hs.1 (ih cx h1).1 (args_ok ih cx hs.2 h2)
theorem fold_and (ih : POk n) (cx : Cxt X C W G rc E T k) {pos : Pos} : ∀ {es : List Expr} {as : List Ex} {c : Ex}, seqO (es.map (cE C n false)) = some as → foldB .and as = some c →
    PE X (.BoolOp .And es pos) (tD W E (ev G rc c)) ∧ PW X (.BoolOp .And es pos) (tDT W E fun ρ S => (ev G rc c ρ S).bind tru)
  | [], as, c, h, hf => by cases h; cases hf
  | [e], as, c, h, hf => by
    obtain ⟨y, ys, h1, h2, rfl⟩ := seqO_cons h
    cases h2
    cases hf
    exact ⟨pe_one (ih cx h1).1, pw_and1 (ih cx h1).2⟩
  | e :: b :: es, as, c, h, hf => by
    obtain ⟨y, ys, h1, h2, rfl⟩ := seqO_cons h
    obtain ⟨z, zs, h3, h4, rfl⟩ := seqO_cons h2
    unfold foldB at hf
    cases q : foldB .and (z :: zs) with
    | none => rw [q] at hf; cases hf
    | some d =>
      rw [q] at hf
      cases hf
      obtain ⟨r1, r2⟩ := fold_and ih cx (es := b :: es) h2 q
      exact ⟨de_and cx.K (ih cx h1).1 r1, dw_and (ih cx h1).2 r2⟩
theorem fold_or (ih : POk n) (cx : Cxt X C W G rc E T k) {pos : Pos} : ∀ {es : List Expr} {as : List Ex} {c : Ex}, seqO (es.map (cE C n false)) = some as → foldB .or as = some c →
    PE X (.BoolOp .Or es pos) (tD W E (ev G rc c)) ∧ PW X (.BoolOp .Or es pos) (tDT W E fun ρ S => (ev G rc c ρ S).bind tru)
  | [], as, c, h, hf => by cases h; cases hf
  | [e], as, c, h, hf => by
    obtain ⟨y, ys, h1, h2, rfl⟩ := seqO_cons h
    cases h2
    cases hf
    exact ⟨pe_one (ih cx h1).1, pw_or1 (ih cx h1).2⟩
  | e :: b :: es, as, c, h, hf => by
    obtain ⟨y, ys, h1, h2, rfl⟩ := seqO_cons h
    obtain ⟨z, zs, h3, h4, rfl⟩ := seqO_cons h2
    unfold foldB at hf
    cases q : foldB .or (z :: zs) with
    | none => rw [q] at hf; cases hf
    | some d =>
      rw [q] at hf
      cases hf
      obtain ⟨r1, r2⟩ := fold_or ih cx (es := b :: es) h2 q
      exact ⟨de_or cx.K (ih cx h1).1 r1, dw_or (ih cx h1).2 r2⟩
theorem tyn_ok (cx : Cxt X C W G rc E T k) : ∀ {ts : List Expr} {ns : List Nat}, seqO (ts.map (isTyName C)) = some ns → TyNames X ts ns
  | [], ns, h => by cases h; exact .nil
  | t :: ts, ns, h => by
    obtain ⟨y, ys, h1, h2, rfl⟩ := seqO_cons h
    unfold isTyName at h1
    cases t with
    | Name x p =>
      dsimp only at h1
      split at h1
      · rename_i hb
        obtain ⟨g, m, nn, d⟩ := cx.blt hb
        exact .cons h1 g m nn d (tyn_ok cx h2)
      · cases h1
    | _ => cases h1
theorem opt_ok (ih : POk n) (cx : Cxt X C W G rc E T k) {lo : Option Expr} {l : Option Ex} (h : optE (cE C n false) lo = some l) : PO X lo (tDO W E (evo G rc l)) := by
  cases lo with
  | none => cases h; exact do_none
  | some e =>
    dsimp only [optE] at h
    cases q : cE C n false e with
    | none => rw [q] at h; cases h
    | some c => rw [q] at h; cases h; exact do_some (ih cx q).1
theorem cond_ok (ih : POk n) (cx : Cxt X C W G rc E T k) {ifs : List Expr} {l : Option Ex} (h : condE (cE C n false) ifs = some l) : PTs X ifs (tDT W E (evc G rc l)) := by
  cases ifs with
  | nil =>
    cases h
    exact ⟨fun pins s σ H Q I ⟨α, F, ρ, S, sr, er, p⟩ => pts_nil.run pins s σ H Q I (p.here sr rfl)⟩
  | cons c r =>
    cases r with
    | nil =>
      dsimp only [condE] at h
      cases q : cE C n false c with
      | none => rw [q] at h; cases h
      | some d => rw [q] at h; cases h; exact pts_one (ih cx q).2
    | cons _ _ => cases h
theorem plain_ix {b : Expr} (h : isSl b = false) : PlainIx b := by
  intro o i
  cases b <;> first | rfl | (simp [isSl] at h)
theorem tgNames_slots : True := trivial
end
theorem notset_ok {iter : Expr} (h : notSet iter = true) {env : PySem.Env} (x : Value) : foldedSetIterable iter env x = pure x := by
  cases iter <;> first | rfl | (simp [notSet] at h)
theorem cIt_ok (n : Nat) (ih : POk n) : IOk (n + 1) := by
  intro X C W G rc E T k cx tg e kk its h ht
  rw [cE.cIt.eq_def] at h
  dsimp only at h
  have seq : ∀ {e : Expr}, (cE C n false e).map (fun e => (Ik.seq, [e])) = some (kk, its) → PI X tg e (tDI W E fun ρ S => (evs G rc its ρ S).bind (walkF kk)) := fun {e} h => by
    cases q : cE C n false e with
    | none => rw [q] at h; cases h
    | some c =>
      rw [q] at h
      cases h
      exact di_seq cx.K (ih cx q).1
  cases e with
  | Call g args kws p =>
    cases g with
    | Name f fp =>
      cases kws with
      | cons _ _ => exact seq h
      | nil =>
        dsimp only at h
        split at h
        · rename_i hb
          rw [Bool.and_eq_true] at hb
          obtain ⟨g, m, nn, d⟩ := cx.blt hb.1
          cases hq : seqO (args.map (cE C n false)) with
          | none => rw [hq] at h; cases h
          | some as =>
            rw [hq] at h
            dsimp only at h
            cases hk : cIk f as with
            | none => rw [hk] at h; exact seq h
            | some k' =>
              rw [hk] at h
              cases h
              unfold cIk at hk
              match args, hq, hb with
              | [], hq, hb => cases hq; cases hk
              | [a], hq, hb =>
                obtain ⟨y, ys, h1, h2, rfl⟩ := seqO_cons hq
                cases h2
                dsimp only at hk
                have hs : notStar a = true := by simpa using hb.2
                split at hk
                · rename_i hr
                  have hr := beq_iff_eq.mp hr
                  subst hr
                  cases hk
                  exact di_rng1 g m hs (ih cx h1).1
                · split at hk
                  · rename_i hr
                    have hr := beq_iff_eq.mp hr
                    subst hr
                    cases hk
                    exact di_rev cx.K g m hs (ih cx h1).1
                  · split at hk
                    · rename_i hr
                      have hr := beq_iff_eq.mp hr
                      subst hr
                      cases hk
                      cases tg with
                      | Tuple es kk tp => exact di_enum cx.K g m hs (ih cx h1).1
                      | _ => cases ht
                    · cases hk
              | [a, b], hq, hb =>
                obtain ⟨y, ys, h1, h2, rfl⟩ := seqO_cons hq
                obtain ⟨z, zs, h3, h4, rfl⟩ := seqO_cons h2
                cases h4
                dsimp only at hk
                have hs : notStar a = true ∧ notStar b = true := by simpa using hb.2
                split at hk
                · rename_i hr
                  have hr := beq_iff_eq.mp hr
                  subst hr
                  cases hk
                  exact di_rng2 g m hs.1 hs.2 (ih cx h1).1 (ih cx h3).1
                · cases hk
              | a :: b :: c :: r, hq, hb =>
                obtain ⟨y, ys, h1, h2, rfl⟩ := seqO_cons hq
                obtain ⟨z, zs, h3, h4, rfl⟩ := seqO_cons h2
                obtain ⟨w, ws, h5, h6, rfl⟩ := seqO_cons h4
                cases hk
        · exact seq h
    | _ => exact seq h
  | _ => exact seq h
end Z
end

section
set_option maxHeartbeats 1000000
/-! Z16: the compiled expressions, all forms. -/
namespace Z
open PySem L2
section
theorem cE_step (n : Nat) (ih : POk n) (ihi : IOk n) : POk (n + 1) := by
  intro X C W G rc E T k cx cell e c h
  rw [cE.eq_def] at h
  dsimp only at h
  have plain : ∀ {e : Expr} {c : Ex} (he : ∀ whole, isTrue e X.env whole = (do let v ← whole; standAt e.pos; holding [v] (PySem.truthy v))), PE X e (tD W E (ev G rc c)) → PE X e (tD W E (ev G rc c)) ∧ PT X e (tDT W E fun ρ S => (ev G rc c ρ S).bind tru) :=
    fun {e c} he p => ⟨p, dt_truth cx.K p he⟩
  cases e with
  | Constant cc kk pos =>
    cases cc with
    | int i => cases h; exact plain (fun _ => rfl) (de_con pe_int fun _ => rfl)
    | bool i => cases h; exact plain (fun _ => rfl) (de_con pe_bl fun _ => rfl)
    | none => cases h; exact plain (fun _ => rfl) (de_con pe_non fun _ => rfl)
    | str i => cases h; exact plain (fun _ => rfl) (de_con pe_str fun _ => rfl)
    | _ => cases h
  | Name x pos =>
    dsimp only at h
    cases hq : cNm C x with
    | some i =>
      rw [hq] at h
      cases h
      unfold cNm at hq
      cases hf : findN C.N x with
      | none => rw [hf] at hq; cases hq
      | some j =>
        rw [hf] at hq
        dsimp only at hq
        split at hq
        · rename_i hb
          simp only [Bool.and_eq_true] at hb
          cases hq
          exact plain (fun _ => rfl) (de_var (by rw [cx.N]; exact findN_at hf) (by rw [cx.sc]; exact vis_of hb.1.1) (not_beq hb.1.2) (not_beq hb.2))
        · cases hq
    | none =>
      rw [hq] at h
      dsimp only at h
      split at h
      · rename_i hb
        rw [Bool.and_eq_true] at hb
        cases hg : C.gc.lookup x with
        | none => rw [hg] at h; cases h
        | some g =>
          rw [hg] at h
          cases h
          obtain ⟨v, u, h1, h2, h3⟩ := cx.gc x g hg
          exact plain (fun _ => rfl) (de_con (pe_glob (cx.gl hb.1) h1 h2 (not_beq hb.2)) h3)
      · cases h
  | BinOp a op b pos =>
    dsimp only at h
    cases h1 : cOp op with
    | none => rw [h1] at h; cases h
    | some o =>
      cases h2 : cE C n false a with
      | none => rw [h1, h2] at h; cases h
      | some a' =>
        cases h3 : cE C n false b with
        | none => rw [h1, h2, h3] at h; cases h
        | some b' =>
          rw [h1, h2, h3] at h
          cases h
          exact plain (fun _ => rfl) (de_op cx.K h1 (ih cx h2).1 (ih cx h3).1)
  | UnaryOp op a pos =>
    cases op with
    | USub =>
      dsimp only at h
      cases h2 : cE C n false a with
      | none => rw [h2] at h; cases h
      | some a' =>
        rw [h2] at h
        cases h
        exact plain (fun _ => rfl) (de_neg (ih cx h2).1)
    | Not =>
      dsimp only at h
      cases h2 : cE C n false a with
      | none => rw [h2] at h; cases h
      | some a' =>
        rw [h2] at h
        cases h
        exact ⟨de_not cx.K (ih cx h2).1, dt_not (ih cx h2).2⟩
    | _ => cases h
  | BoolOp op es pos =>
    cases op with
    | And =>
      dsimp only at h
      cases hq : seqO (es.map (cE C n false)) with
      | none => rw [hq] at h; cases h
      | some as =>
        rw [hq] at h
        obtain ⟨p1, p2⟩ := fold_and ih cx (pos := pos) hq h
        exact ⟨p1, p2.pt⟩
    | Or =>
      dsimp only at h
      cases hq : seqO (es.map (cE C n false)) with
      | none => rw [hq] at h; cases h
      | some as =>
        rw [hq] at h
        obtain ⟨p1, p2⟩ := fold_or ih cx (pos := pos) hq h
        exact ⟨p1, p2.pt⟩
  | IfExp cc a b pos =>
    dsimp only at h
    cases h1 : cE C n false cc with
    | none => rw [h1] at h; cases h
    | some c' =>
      cases h2 : cE C n cell a with
      | none => rw [h1, h2] at h; cases h
      | some a' =>
        cases h3 : cE C n cell b with
        | none => rw [h1, h2, h3] at h; cases h
        | some b' =>
          rw [h1, h2, h3] at h
          cases h
          exact ⟨de_ite (ih cx h1).2 (ih cx h2).1 (ih cx h3).1, dt_ite (ih cx h1).2 (ih cx h2).2 (ih cx h3).2⟩
  | Compare a ops bs pos =>
    match ops, bs with
    | [op], [b] =>
      dsimp only at h
      split at h
      · cases h
      · rename_i hm
        have hm : behindInMarks op b = false := by simpa using hm
        cases h1 : cCm op with
        | none => rw [h1] at h; cases h
        | some o =>
          cases h2 : cE C n false a with
          | none => rw [h1, h2] at h; cases h
          | some a' =>
            cases h3 : cE C n false b with
            | none => rw [h1, h2, h3] at h; cases h
            | some b' =>
              rw [h1, h2, h3] at h
              cases h
              exact ⟨de_cmp cx.K cx.room.u100 h1 hm (ih cx h2).1 (ih cx h3).1, dt_cmp cx.K cx.room.u100 h1 hm (ih cx h2).1 (ih cx h3).1⟩
    | [op, op'], [b, d] =>
      dsimp only at h
      split at h
      · cases h
      · rename_i hm
        have hm : lastMarks [op, op'] [b, d] = false := by simpa using hm
        cases h1 : cCm op with
        | none => rw [h1] at h; cases h
        | some o =>
          cases h1' : cCm op' with
          | none => rw [h1, h1'] at h; cases h
          | some o' =>
            cases h2 : cE C n false a with
            | none => rw [h1, h1', h2] at h; cases h
            | some a' =>
              cases h3 : cE C n false b with
              | none => rw [h1, h1', h2, h3] at h; cases h
              | some b' =>
                cases h4 : cE C n false d with
                | none => rw [h1, h1', h2, h3, h4] at h; cases h
                | some d' =>
                  rw [h1, h1', h2, h3, h4] at h
                  cases h
                  exact ⟨de_chain cx.K cx.room.u100 h1 h1' hm (ih cx h2).1 (ih cx h3).1 (ih cx h4).1, dt_chain cx.K cx.room.u100 h1 h1' hm (ih cx h2).1 (ih cx h3).1 (ih cx h4).1⟩
    | [], _ => cases h
    | [_], [] => cases h
    | [_], _ :: _ :: _ => cases h
    | [_, _], [] => cases h
    | [_, _], [_] => cases h
    | [_, _], _ :: _ :: _ :: _ => cases h
    | _ :: _ :: _ :: _, _ => cases h
  | Tuple es kk pos =>
    dsimp only at h
    split at h
    · rename_i hs
      cases hq : seqO (es.map (cE C n false)) with
      | none => rw [hq] at h; cases h
      | some as =>
        rw [hq] at h
        cases h
        exact plain (fun _ => rfl) (de_tup (args_ok ih cx hs hq))
    · cases h
  | List es pos =>
    dsimp only at h
    split at h
    · rename_i hs
      cases hq : seqO (es.map (cE C n false)) with
      | none => rw [hq] at h; cases h
      | some as =>
        rw [hq] at h
        cases h
        exact plain (fun _ => rfl) (de_lst (args_ok ih cx hs hq))
    · cases h
  | Subscript a b pos =>
    have ix : ∀ {b : Expr}, (if isSl b = true then none else match cE C n false a, cE C n false b with
      | some a, some b => some (Ex.ix a b)
      | _, _ => none) = some c → PE X (.Subscript a b pos) (tD W E (ev G rc c)) ∧ PT X (.Subscript a b pos) (tDT W E fun ρ S => (ev G rc c ρ S).bind tru) := fun {b} h => by
      split at h
      · cases h
      · rename_i hs
        cases h2 : cE C n false a with
        | none => rw [h2] at h; cases h
        | some a' =>
          cases h3 : cE C n false b with
          | none => rw [h2, h3] at h; cases h
          | some b' =>
            rw [h2, h3] at h
            cases h
            exact plain (fun _ => rfl) (de_ix cx.K (plain_ix (by simpa using hs)) (ih cx h2).1 (ih cx h3).1)
    cases b with
    | Slice lo hi st p2 =>
      cases st with
      | some _ => exact ix h
      | none =>
        dsimp only at h
        cases h2 : cE C n false a with
        | none => rw [h2] at h; cases h
        | some a' =>
          rw [h2] at h
          generalize hl : optE (cE C n false) lo = ol at h
          generalize hh : optE (cE C n false) hi = oh at h
          cases ol with
          | none => cases h
          | some l =>
            cases oh with
            | none => cases h
            | some r =>
              cases h
              exact plain (fun _ => rfl) (de_sl cx.K (ih cx h2).1 (opt_ok ih cx hl) (opt_ok ih cx hh))
    | _ => exact ix h
  | Call g args kws pos =>
    cases kws with
    | cons _ _ => cases g <;> cases h
    | nil =>
      cases g with
      | Name f fp =>
        dsimp only at h
        split at h
        · rename_i hb
          rw [Bool.and_eq_true] at hb
          have hf := beq_iff_eq.mp hb.2
          subst hf
          obtain ⟨g, m, nn, d⟩ := cx.blt hb.1
          have one : ∀ {x t : Expr}, (if (!notStar x) = true then none else match cE C n false x, isTyName C t with
              | some x, some t => some (Ex.bf (.isinst [t]) false [x])
              | _, _ => none) = some c → PE X (.Call (.Name "isinstance" fp) [x, t] [] pos) (tD W E (ev G rc c)) := fun {x t} h => by
            split at h
            · cases h
            · rename_i hs
              cases h2 : cE C n false x with
              | none => rw [h2] at h; cases h
              | some x' =>
                cases h3 : isTyName C t with
                | none => rw [h2, h3] at h; cases h
                | some t' =>
                  rw [h2, h3] at h
                  cases h
                  unfold isTyName at h3
                  cases t with
                  | Name y p =>
                    dsimp only at h3
                    split at h3
                    · rename_i hb2
                      obtain ⟨g2, m2, n2, d2⟩ := cx.blt hb2
                      exact de_isi cx.K h3 g m g2 m2 n2 d2 (by simpa using hs) (ih cx h2).1
                    · cases h3
                  | _ => cases h3
          match args, h with
          | [x, t], h =>
            cases t with
            | Tuple ts kk tp =>
              dsimp only at h
              split at h
              · cases h
              · rename_i hs
                cases h2 : cE C n false x with
                | none => rw [h2] at h; cases h
                | some x' =>
                  cases h3 : seqO (ts.map (isTyName C)) with
                  | none => rw [h2, h3] at h; cases h
                  | some ns =>
                    rw [h2, h3] at h
                    dsimp only at h
                    split at h
                    · rename_i hl
                      cases h
                      exact plain (fun _ => rfl) (de_isiT cx.K (tyn_ok cx h3) hl g m (by simpa using hs) (ih cx h2).1)
                    · cases h
            | _ => exact plain (fun _ => rfl) (one h)
          | [], h => cases h
          | [_], h => cases h
          | _ :: t :: _ :: _, h => cases t <;> cases h
        · split at h
          · rename_i hs
            cases hq : seqO (args.map (cE C n false)) with
            | none => rw [hq] at h; cases h
            | some as =>
              rw [hq] at h
              dsimp only at h
              have hA := args_ok ih cx hs hq
              split at h
              · rename_i hgl
                rw [Bool.and_eq_true] at hgl
                cases hd : C.gd.lookup f with
                | some kf =>
                  rw [hd] at h
                  cases h
                  obtain ⟨fd, ps, h1, h2, h3, h4⟩ := cx.gd f kf hd
                  cases args with
                  | nil =>
                    cases hq
                    exact plain (fun _ => rfl) (de_call0 h1 cx.room (cx.gl hgl.1) h2 h3 h4 cx.pas (not_beq hgl.2))
                  | cons a args =>
                    rw [List.all_cons, Bool.and_eq_true] at hs
                    exact plain (fun _ => rfl) (de_call h1 cx.room (cx.gl hgl.1) h2 h3 h4 cx.pas (not_beq hgl.2) hs.1 hs.2 hA)
                | none =>
                  rw [hd] at h
                  dsimp only at h
                  split at h
                  · rename_i hb
                    rw [Bool.and_eq_true] at hb
                    obtain ⟨g, m, nn, d⟩ := cx.blt hb.1
                    cases hbf : cBf f with
                    | none => rw [hbf] at h; cases h
                    | some b =>
                      rw [hbf] at h
                      cases h
                      cases args with
                      | nil => cases hq; exact absurd hb.2 (by decide)
                      | cons a args =>
                        rw [List.all_cons, Bool.and_eq_true] at hs
                        exact plain (fun _ => rfl) (de_bf cx.K cx.room.u100 cx.calm hbf g m nn d hs.1 hs.2 hA)
                  · cases h
              · cases h
          · cases h
      | Attribute o m apos =>
        dsimp only at h
        split at h
        · rename_i hs
          rw [Bool.and_eq_true] at hs
          cases h2 : cE C n false o with
          | none => rw [h2] at h; cases h
          | some o' =>
            cases hq : seqO (args.map (cE C n false)) with
            | none => rw [h2, hq] at h; cases h
            | some as =>
              rw [h2, hq] at h
              dsimp only at h
              split at h
              · rename_i hl
                match args, hq, hs with
                | [], hq, hs =>
                  cases hq
                  dsimp only at h
                  cases hb : cBm0 m with
                  | none => rw [hb] at h; cases h
                  | some b =>
                    rw [hb] at h
                    cases h
                    exact plain (fun _ => rfl) (de_bm0 cx.K (bm_rule0 cx.K hb) hs.2 hl (ih cx h2).1)
                | [a], hq, hs =>
                  obtain ⟨y, ys, h3, h4, rfl⟩ := seqO_cons hq
                  cases h4
                  dsimp only at h
                  cases hb : cBm1 m with
                  | none => rw [hb] at h; cases h
                  | some b =>
                    rw [hb] at h
                    cases h
                    by_cases hi : isIdx b = true
                    · have hm : m = "index" ∧ b = .index := by
                        rcases cBm1_cases hb with ⟨rfl, rfl⟩ | ⟨rfl, rfl⟩ | ⟨rfl, rfl⟩ | ⟨rfl, rfl⟩ | ⟨rfl, rfl⟩ | ⟨rfl, rfl⟩ | ⟨rfl, rfl⟩ <;> first | (cases hi; done) | exact ⟨rfl, rfl⟩
                      obtain ⟨rfl, rfl⟩ := hm
                      exact plain (fun _ => rfl) (de_index cx.K cx.room.u100 hs.2 hl (by simpa using hs.1) (ih cx h2).1 (ih cx h3).1)
                    · exact plain (fun _ => rfl) (de_bm1 (fs := nilF) cx.K (bm_rule1 cx.K cx.room.u100 hb (by simpa using hi)) hs.2 hl (by simpa using hs.1) (ih cx h2).1 (ih cx h3).1)
                | a :: b :: r, hq, hs =>
                  obtain ⟨y, ys, h3, h4, rfl⟩ := seqO_cons hq
                  obtain ⟨z, zs, h5, h6, rfl⟩ := seqO_cons h4
                  cases h
              · cases h
        · cases h
      | _ => cases h
  | ListComp elt gs scope pos =>
    match gs, h with
    | [⟨tg, iter, ifs, asy⟩], h =>
      dsimp only at h
      split at h
      · rename_i hb
        rw [Bool.and_eq_true, Bool.and_eq_true] at hb
        obtain ⟨hb, h0⟩ := hb
        have h0 := of_decide_eq_true h0
        subst h0
        generalize hcc : condE (cE { C with sc := relS scope C.sc, wr := some scope } n false) ifs = oc at h
        cases h1 : cE.cIt C n iter with
        | none => rw [h1] at h; cases h
        | some q =>
          obtain ⟨kk, its⟩ := q
          cases h2 : cTg { C with sc := relS scope C.sc, wr := some scope } n tg with
          | none => rw [h1, h2] at h; cases h
          | some t =>
            cases h3 : cE { C with sc := relS scope C.sc, wr := some scope } n cell elt with
            | none => rw [h1, h2, h3] at h; cases h
            | some el =>
              cases oc with
              | none => rw [h1, h2, h3] at h; cases h
              | some oc =>
                rw [h1, h2, h3] at h
                dsimp only at h
                split at h
                · rename_i hz
                  rw [Bool.and_eq_true] at hz
                  cases h
                  refine plain (fun _ => rfl) (de_lc cx.calm (by rw [cx.N]; exact cx.nd) (ihi cx h1 hz.2) (blkOk_by (by rw [cx.N, cx.sc]; exact hb.1))
                    (fun s H A cl fp => ((cx.blk scope s H A cl fp).tg n).1 h2 |>.1) (fun s H A cl fp => cond_ok ih (cx.blk scope s H A cl fp) hcc) (fun s H A cl fp => (ih (cx.blk scope s H A cl fp) h3).1)
                    (fun x => notset_ok hb.2 x) fun i hi => ?_)
                  have := List.all_eq_true.mp hz.1 i hi
                  simpa using this
                · cases h
      · cases h
    | [], h => cases h
    | ⟨_, _, _, _⟩ :: ⟨_, _, _, _⟩ :: _, h => cases h
  | _ => cases h
theorem cE_ok : ∀ n, POk n ∧ IOk n
  | 0 => by
    constructor
    · intro X C W G rc E T k cx cell e c h
      rw [cE.eq_def] at h
      cases h
    · intro X C W G rc E T k cx tg e kk its h
      rw [cE.cIt.eq_def] at h
      cases h
  | n + 1 => ⟨cE_step n (cE_ok n).1 (cE_ok n).2, cIt_ok n (cE_ok n).1⟩
end
end Z
end

section
set_option maxHeartbeats 1000000
/-! Z17: the compiled statements say what the text does. -/
namespace Z
open PySem L2
section
variable {X : Cx} {C : Cs} {W : Wd} {G : Gm} {rc : Nat → List Vl → Sto → Res Vl} {E : XK} {T : CXT} {k n : Nat}
theorem lc_parts {cell : Bool} {elt : Expr} {gs : List Comprehension} {scope : Scope} {pos : Pos} {c : Ex} (h : cE C (n + 1) cell (.ListComp elt gs scope pos) = some c) :
    ∃ tg iter ifs t kk its el oc, gs = [⟨tg, iter, ifs, 0⟩] ∧ c = .lc cell el t ((tgNames C n tg).map (·.2)) kk its oc ∧ blkB C scope (tgNames C n tg) = true ∧ notSet iter = true ∧ cE.cIt C n iter = some (kk, its) ∧
      cTg { C with sc := relS scope C.sc, wr := some scope } n tg = some t ∧ cE { C with sc := relS scope C.sc, wr := some scope } n cell elt = some el ∧ condE (cE { C with sc := relS scope C.sc, wr := some scope } n false) ifs = some oc ∧
      tgOk tg kk = true ∧ ∀ i ∈ t.slots, i ∈ (tgNames C n tg).map (·.2) := by
  rw [cE.eq_def] at h
  dsimp only at h
  match gs, h with
  | [⟨tg, iter, ifs, asy⟩], h =>
    dsimp only at h
    split at h
    · rename_i hb
      rw [Bool.and_eq_true, Bool.and_eq_true] at hb
      obtain ⟨hb, h0⟩ := hb
      have h0 := of_decide_eq_true h0
      subst h0
      generalize hcc : condE (cE { C with sc := relS scope C.sc, wr := some scope } n false) ifs = oc at h
      cases h1 : cE.cIt C n iter with
      | none => rw [h1] at h; cases h
      | some q =>
        obtain ⟨kk, its⟩ := q
        cases h2 : cTg { C with sc := relS scope C.sc, wr := some scope } n tg with
        | none => rw [h1, h2] at h; cases h
        | some t =>
          cases h3 : cE { C with sc := relS scope C.sc, wr := some scope } n cell elt with
          | none => rw [h1, h2, h3] at h; cases h
          | some el =>
            cases oc with
            | none => rw [h1, h2, h3] at h; cases h
            | some oc =>
              rw [h1, h2, h3] at h
              dsimp only at h
              split at h
              · rename_i hz
                rw [Bool.and_eq_true] at hz
                cases h
                exact ⟨tg, iter, ifs, t, kk, its, el, oc, rfl, rfl, hb.1, hb.2, by first | exact h1 | rfl, by first | exact h2 | rfl, by first | exact h3 | rfl, hcc, hz.2, fun i hi => by
                  have := List.all_eq_true.mp hz.1 i hi
                  simpa using this⟩
              · cases h
    · cases h
  | [], h => cases h
  | ⟨_, _, _, _⟩ :: ⟨_, _, _, _⟩ :: _, h => cases h
theorem tDS_congr {f g : Env → Sto → RS} {st : Stmt} (h : ∀ ρ S, f ρ S = g ρ S) (q : PS X st (tDS W E f)) : PS X st (tDS W E g) := by
  have : f = g := funext fun ρ => funext fun S => h ρ S
  rw [← this]; exact q
theorem seq_nx (r : RS) : (r.seq fun ρ S => .nx ρ S) = r := by cases r <;> rfl
theorem exs_one {s : Z.St} {ρ : Env} {S : Sto} : exs G rc [s] ρ S = ex G rc s ρ S := seq_nx _
theorem exs_app (b : List Z.St) {ρ : Env} {S : Sto} : ∀ (a : List Z.St) {ρ : Env} {S : Sto}, exs G rc (a ++ b) ρ S = (exs G rc a ρ S).seq fun ρ S => exs G rc b ρ S
  | [], ρ, S => rfl
  | s :: a, ρ, S => by
    show (ex G rc s ρ S).seq (fun ρ S => exs G rc (a ++ b) ρ S) = ((ex G rc s ρ S).seq fun ρ S => exs G rc a ρ S).seq fun ρ S => exs G rc b ρ S
    cases ex G rc s ρ S with
    | nx ρ' S' => exact exs_app b (ρ := ρ) (S := S) a
    | _ => rfl
theorem frz_ok {st : Stmt} {s : Z.St} {l : Nat} (h : PS X st (tDS W E (ex G rc s))) : PS X st (tDS W E (exs G rc (frzAt C l ++ [s]))) := by
  unfold frzAt
  cases C.frz.lookup l with
  | none => exact tDS_congr (fun ρ S => exs_one.symm) h
  | some is =>
    refine tDS_congr (fun ρ S => ?_) (ds_frz (is := is) h)
    show frzF is (ex G rc s) ρ S = (ex G rc (.frz is) ρ S).seq fun ρ S => exs G rc [s] ρ S
    show frzF is (ex G rc s) ρ S = RS.seq (match frz is ρ S with | some (ρ, S) => .nx ρ S | none => .bad) fun ρ S => exs G rc [s] ρ S
    unfold frzF
    cases frz is ρ S with
    | none => rfl
    | some q => exact exs_one.symm
theorem tup_swap {e : Expr} (h : isTup e = false) {tg : Expr} {env : PySem.Env} : swappedStores [tg] e env = pure none := by
  cases e <;> first | (simp [isTup] at h; done) | (cases tg <;> rfl)
theorem name_swap {x : Str} {p : Pos} {e : Expr} {env : PySem.Env} : swappedStores [.Name x p] e env = pure none := rfl
theorem swS_of {e t : Expr} {l : Nat} {env : PySem.Env} (h : swapsWith e (some t) l env = pure false) : PySem.swapsWithSole [t] e l env = pure false := h
theorem sw_cell {x : Str} {px : Pos} {elt : Expr} {gs : List Comprehension} {scope : Scope} {p : Pos} {l : Nat} {env : PySem.Env} (h : ¬ env.scope.names.lookup x = some .local) : PySem.swapsWithSole [.Name x px] (.ListComp elt gs scope p) l env = pure false := by
  have h : ¬ (env.kindOf x = some .local) := h
  have e : (env.kindOf x == some .local) = false := by
    cases q : env.kindOf x with
    | none => rfl
    | some k =>
      cases k <;> first | rfl | exact absurd q h
  refine swS_of ?_
  unfold swapsWith
  simp [e]
theorem isTup_not {e : Expr} (h : (isTup e || isLc e) = false) : isTup e = false ∧ isLc e = false := by
  cases h1 : isTup e <;> cases h2 : isLc e <;> simp [h1, h2] at h ⊢

def SOk (n : Nat) : Prop := (∀ {X : Cx} {C : Cs} {W : Wd} {G : Gm} {rc : Nat → List Vl → Sto → Res Vl} {E : XK} {T : CXT} {k : Nat} (cx : Cxt X C W G rc E T k) {s : Stmt} {ss : List Z.St}, cS C n s = some ss → PS X s (tDS W E (exs G rc ss))) ∧
  (∀ {X : Cx} {C : Cs} {W : Wd} {G : Gm} {rc : Nat → List Vl → Sto → Res Vl} {E : XK} {T : CXT} {k : Nat} (cx : Cxt X C W G rc E T k) {s : List Stmt} {ss : List Z.St}, cSs C n s = some ss → PSs X s (tDS W E (exs G rc ss)))
theorem cSs_step (n : Nat) (ih : SOk n) {X : Cx} {C : Cs} {W : Wd} {G : Gm} {rc : Nat → List Vl → Sto → Res Vl} {E : XK} {T : CXT} {k : Nat} (cx : Cxt X C W G rc E T k) {s : List Stmt} {ss : List Z.St} (h : cSs C (n + 1) s = some ss) : PSs X s (tDS W E (exs G rc ss)) := by
  rw [cSs.eq_def] at h
  cases s with
  | nil => cases h; exact dss_nil
  | cons s sts =>
    dsimp only at h
    cases h1 : cS C n s with
    | none => rw [h1] at h; cases h
    | some a =>
      cases h2 : cSs C n sts with
      | none => rw [h1, h2] at h; cases h
      | some b =>
        rw [h1, h2] at h
        cases h
        have e : exs G rc (a ++ b) = fun ρ S => (exs G rc a ρ S).seq fun ρ S => exs G rc b ρ S := funext fun ρ => funext fun S => exs_app b (ρ := ρ) (S := S) a
        rw [e]
        exact dss_cons (ih.1 cx h1) (ih.2 cx h2)
theorem cS_step (n : Nat) (ih : SOk n) {X : Cx} {C : Cs} {W : Wd} {G : Gm} {rc : Nat → List Vl → Sto → Res Vl} {E : XK} {T : CXT} {k : Nat} (cx : Cxt X C W G rc E T k) {s : Stmt} {ss : List Z.St} (h : cS C (n + 1) s = some ss) : PS X s (tDS W E (exs G rc ss)) := by
  have ihe : POk n := (cE_ok n).1
  have ihi : IOk n := (cE_ok n).2
  rw [cS.eq_def] at h
  dsimp only at h
  cases s with
  | Pass pos => cases h; exact tDS_congr (fun ρ S => exs_one.symm) ds_pass
  | Break pos => cases h; exact tDS_congr (fun ρ S => exs_one.symm) ds_break
  | Continue pos => cases h; exact tDS_congr (fun ρ S => exs_one.symm) ds_cont
  | Return e pos =>
    cases e with
    | none =>
      cases h
      exact frz_ok ds_retN
    | some e =>
      dsimp only at h
      cases h1 : cE C n C.retc e with
      | none => rw [h1] at h; cases h
      | some c =>
        rw [h1] at h
        cases h
        exact frz_ok (ds_ret (ihe cx h1).1)
  | Expr e pos =>
    dsimp only at h
    split at h
    · cases h
    · rename_i hl
      cases h1 : cE C n false e with
      | none => rw [h1] at h; cases h
      | some c =>
        rw [h1] at h
        cases h
        exact frz_ok (ds_expr (by simpa using hl) (ihe cx h1).1)
  | AugAssign tg op e pos =>
    cases tg with
    | Name x px =>
      dsimp only at h
      cases h1 : findN C.N x with
      | none => rw [h1] at h; cases h
      | some i =>
        cases h2 : cOp op with
        | none => rw [h1, h2] at h; cases h
        | some o =>
          cases h3 : cE C n false e with
          | none => rw [h1, h2, h3] at h; cases h
          | some c =>
            rw [h1, h2, h3] at h
            dsimp only at h
            split at h
            · rename_i hb
              rw [Bool.and_eq_true] at hb
              cases h
              exact frz_ok (ds_aug h2 (by rw [cx.N]; exact cx.nd) (by rw [cx.N]; exact findN_at h1) (by rw [cx.sc]; exact loc_of hb.1) (by rw [cx.sc]; exact cx.fn x (loc_of hb.1) hb.2) (ihe cx h3).1)
            · cases h
    | _ => cases h
  | If c a b pos =>
    dsimp only at h
    cases h1 : cE C n false c with
    | none => rw [h1] at h; cases h
    | some c' =>
      cases h2 : cSs C n a with
      | none => rw [h1, h2] at h; cases h
      | some a' =>
        cases h3 : cSs C n b with
        | none => rw [h1, h2, h3] at h; cases h
        | some b' =>
          rw [h1, h2, h3] at h
          cases h
          exact frz_ok (ds_if (ihe cx h1).2 (ih.2 cx h2) (ih.2 cx h3))
  | While c b el pos =>
    cases el with
    | cons _ _ => cases h
    | nil =>
      dsimp only at h
      cases h1 : cE C n false c with
      | none => rw [h1] at h; cases h
      | some c' =>
        cases h2 : cSs C n b with
        | none => rw [h1, h2] at h; cases h
        | some b' =>
          rw [h1, h2] at h
          cases h
          exact frz_ok (ds_while cx.own (ihe cx h1).2 (ih.2 cx h2))
  | For tg it b el pos =>
    cases el with
    | cons _ _ => cases h
    | nil =>
      dsimp only at h
      cases h1 : cTg C n tg with
      | none => rw [h1] at h; cases h
      | some t =>
        cases h2 : cE.cIt C n it with
        | none => rw [h1, h2] at h; cases h
        | some q =>
          obtain ⟨kk, its⟩ := q
          cases h3 : cSs C n b with
          | none => rw [h1, h2, h3] at h; cases h
          | some b' =>
            rw [h1, h2, h3] at h
            dsimp only at h
            split at h
            · rename_i hz
              rw [Bool.and_eq_true] at hz
              cases h
              exact frz_ok (ds_for cx.own cx.calm (ihi cx h2 hz.1) ((cx.tg n).1 h1).1 (ih.2 cx h3) fun x => notset_ok hz.2 x)
            · cases h
  | Assign tgs e pos =>
    match tgs, h with
    | [], h => cases h
    | [tg], h =>
      cases tg with
      | Name x px =>
        dsimp only at h
        cases h1 : findN C.N x with
        | none => rw [h1] at h; cases h
        | some i =>
          rw [h1] at h
          dsimp only at h
          split at h
          · rename_i hb
            rw [Bool.and_eq_true, Bool.and_eq_true] at hb
            obtain ⟨⟨hb1, hb2⟩, hb3⟩ := hb
            cases h2 : cE C n (C.cells.contains x) e with
            | none => rw [h2] at h; cases h
            | some c =>
              rw [h2] at h
              cases h
              refine frz_ok ?_
              have plain : PySem.swapsWithSole [.Name x px] e pos.line X.env = pure false → PS X (.Assign [.Name x px] e pos) (tDS W E (ex G rc (.asg (.var i) c))) := fun hl =>
                ds_asg hl name_swap rfl (ihe cx h2).1 (dg_var (by rw [cx.N]; exact cx.nd) (by rw [cx.N]; exact findN_at h1) (by rw [cx.sc]; exact loc_of hb1) (by rw [cx.sc]; exact cx.fn x (loc_of hb1) hb2))
              cases e with
              | ListComp elt gs scope p =>
                by_cases hloc : C.sc.names.lookup x = some .local
                case neg => exact plain (sw_cell (by rw [cx.sc]; exact hloc))
                clear plain
                cases n with
                | zero => rw [cE.eq_def] at h2; cases h2
                | succ n =>
                  obtain ⟨tg, iter, ifs, t, kk, its, el, oc, rfl, rfl, z1, z2, z3, z4, z5, z6, z7, z8⟩ := lc_parts h2
                  have ihe : POk n := (cE_ok n).1
                  have ihi : IOk n := (cE_ok n).2
                  simp only [lcOk, hloc, Bool.and_eq_true, Bool.not_eq_true'] at hb3
                  obtain ⟨⟨y2, y3⟩, y4⟩ := hb3
                  have y1 := hloc
                  have y3 : C.sc.kind = .function := by
                    split at y3
                    · assumption
                    · cases y3
                  exact ds_asgLc cx.calm (by rw [cx.N]; exact cx.nd) (by rw [cx.N]; exact findN_at h1) (by rw [cx.sc]; exact y1) (sw_true (by rw [cx.sc]; exact y3) (by rw [cx.sc]; exact y1) y2 y4) (ihi cx z3 z7) (blkOk_by (by rw [cx.N, cx.sc]; exact z1))
                    (fun s H A cl fp => ((cx.blk scope s H A cl fp).tg n).1 z4 |>.1) (fun s H A cl fp => cond_ok ihe (cx.blk scope s H A cl fp) z6) (fun s H A cl fp => (ihe (cx.blk scope s H A cl fp) z5).1)
                    (fun x => notset_ok z2 x) z8
              | _ => exact plain (swS_not (by simpa [lcOk] using hb3))
          · cases h
      | Tuple ts kk p =>
        dsimp only at h
        split at h
        · cases h
        · rename_i hl
          obtain ⟨l1, l2⟩ := isTup_not (by simpa using hl)
          cases h1 : cTg C n (.Tuple ts kk p) with
          | none => rw [h1] at h; cases h
          | some t =>
            cases h2 : cE C n false e with
            | none => rw [h1, h2] at h; cases h
            | some c =>
              rw [h1, h2] at h
              cases h
              exact frz_ok (ds_asg (swS_not l2) (tup_swap l1) rfl (ihe cx h2).1 ((cx.tg n).1 h1).1)
      | Subscript o i p =>
        dsimp only at h
        split at h
        · cases h
        · rename_i hl
          have hl : isLc e = false ∧ isSl i = false := by
            cases q1 : isLc e <;> cases q2 : isSl i <;> simp [q1, q2] at hl ⊢
          cases h1 : cE C n false o with
          | none => rw [h1] at h; cases h
          | some o' =>
            cases h2 : cE C n false i with
            | none => rw [h1, h2] at h; cases h
            | some i' =>
              cases h3 : cE C n false e with
              | none => rw [h1, h2, h3] at h; cases h
              | some c =>
                rw [h1, h2, h3] at h
                cases h
                exact frz_ok (ds_sub hl.1 hl.2 (ihe cx h1).1 (ihe cx h2).1 (ihe cx h3).1)
      | _ => cases h
    | t :: _ :: _, h => cases t <;> cases h
  | _ => cases h
theorem cS_ok : ∀ n, SOk n
  | 0 => by
    constructor
    · intro X C W G rc E T k cx s ss h
      rw [cS.eq_def] at h
      cases h
    · intro X C W G rc E T k cx s ss h
      rw [cSs.eq_def] at h
      cases s with
      | nil => cases h; exact dss_nil
      | cons _ _ => cases h
  | n + 1 => by
    constructor
    · intro X C W G rc E T k cx s ss h
      exact cS_step n (cS_ok n) cx h
    · intro X C W G rc E T k cx s ss h
      exact cSs_step n (cS_ok n) cx h
end
end Z
end

section
set_option maxHeartbeats 1000000
/-! Z18: defs. -/
namespace Z
open PySem L2
section
variable {W : Wd} {E : XK} {α α' : Nat → Addr} {F F' : Hp} {S S' : Sto} {H H' : Hp}
theorem below_vl {N : Nat} {x : Vl} {v : V} {M : Nat} (h : Vl.below N x = true) (r : VlR W α F M x v) : VlR W α F N x v := by
  cases x with
  | d x => exact r
  | p m => exact ⟨r.1, of_decide_eq_true h⟩
theorem below_vls {N M : Nat} {xs : List Vl} {vs : List V} (r : VlRs W α F M xs vs) : xs.all (Vl.below N) = true → VlRs W α F N xs vs := by
  induction r with
  | nil => intro _; exact .nil
  | cons a _ ih =>
    intro h
    rw [List.all_cons, Bool.and_eq_true] at h
    exact .cons (below_vl h.1 a) (ih h.2)
theorem below_cell {N M : Nat} {a : Addr} {c : Cell} (h : c.below N = true) (r : CellOk W α F M H a c) : CellOk W α F N H a c := by
  cases c with
  | dead => trivial
  | lst xs =>
    obtain ⟨vs, e, r⟩ := r
    exact ⟨vs, e, below_vls r h⟩
  | dct _ => exact r.elim
  | ins c fs =>
    obtain ⟨dx, vs, e, r⟩ := r
    refine ⟨dx, vs, e, below_vls r ?_⟩
    rw [List.all_map]
    exact h
theorem close_ok {v : Vl} {Q : V → Hp → Prop} (p : Post W E (VlX W) α F S H (leave.close S v S') Q) (x : Ext α F S H α' F' S' H') (s : Sr W α' F' S' H') {w : V} (r : VlR W α' F' S'.length v w) : Q w H' := by
  unfold leave.close at p
  dsimp only at p
  split at p
  · rename_i hz
    rw [Bool.and_eq_true, Bool.and_eq_true] at hz
    obtain ⟨hl, hc, hv⟩ := (⟨beq_iff_eq.mp hz.1.1, hz.1.2, hz.2⟩ : _ ∧ _ ∧ _)
    have sub : ∀ n c, (S'.take S.length)[n]? = some c → S'[n]? = some c ∧ n < S.length := fun n c h => by
      have hn := (List.getElem?_eq_some_iff.mp h).1
      rw [hl] at hn
      rw [List.getElem?_take_of_lt hn] at h
      exact ⟨h, hn⟩
    have lv : ∀ n, Live (S'.take S.length) n → Live S' n := fun n ⟨c, h, d⟩ => ⟨c, (sub n c h).1, d⟩
    refine p w α' F' H' ⟨x.al, by rw [hl]; exact Nat.le_refl _, x.fr, x.frame, fun n h1 h2 => by rw [hl] at h2; omega, fun n h l => x.lv n h (lv n l), x.dom, x.fz⟩ ⟨s.sub, fun n l => s.sep n (lv n l), fun m n lm ln => s.inj m n (lv m lm) (lv n ln), fun n c h => ?_⟩ ?_
    · obtain ⟨h1, h2⟩ := sub n c h
      have hb := List.all_eq_true.mp hc c (List.mem_iff_getElem?.mpr ⟨n, h⟩)
      rw [hl]
      exact below_cell hb (s.cel n c h1)
    · show VlR W α' F' (S'.take S.length).length v w
      rw [hl]
      exact below_vl hv r
  · exact p.elim
theorem leave_ok {keep : Bool} {v : Vl} {Q : V → Hp → Prop} (p : Post W E (VlX W) α F S H (leave keep S v S') Q) (x : Ext α F S H α' F' S' H') (s : Sr W α' F' S' H') {w : V} (r : VlR W α' F' S'.length v w) : Q w H' := by
  unfold leave at p
  split at p
  · exact p w α' F' H' x s r
  · split at p
    · rename_i n
      split at p
      · exact close_ok p x s r
      · cases hf : freeze (.p n) S' with
        | none => rw [hf] at p; exact p.elim
        | some q =>
          obtain ⟨d, S2⟩ := q
          rw [hf] at p
          dsimp only at p
          cases hn : S'[n]? with
          | none => simp [freeze, hn] at hf
          | some c =>
            cases c with
            | lst xs =>
              cases hp : pures xs with
              | none => simp [freeze, hn, hp] at hf
              | some ds =>
                simp only [freeze, hn, hp, Option.some.injEq, Prod.mk.injEq] at hf
                obtain ⟨rfl, rfl⟩ := hf
                obtain ⟨F2, s2, x2, rp⟩ := s.frzC hn hp
                exact close_ok p (x.trans x2) s2 (by rw [r.1]; exact rp)
            | _ => simp [freeze, hn] at hf
    · exact close_ok p x s r
end

/-- a state without cells -/
theorem Sr.none {W : Wd} {α : Nat → Addr} {F : Hp} {S : Sto} {H : Hp} (s : Sr W α F S H) : Sr W α F [] H :=
  ⟨s.sub, fun n ⟨c, e, _⟩ => by simp at e, fun m n ⟨c, e, _⟩ => by simp at e, fun n c e => by simp at e⟩
theorem VlRs.datas {W : Wd} {α : Nat → Addr} {F : Hp} {N M : Nat} {xs : List Vl} {vs : List V} (r : VlRs W α F N xs vs) : xs.all dataO = true → VlRs W α F M xs vs := by
  induction r with
  | nil => intro _; exact .nil
  | @cons x v xs vs a _ ih =>
    intro h
    rw [List.all_cons, Bool.and_eq_true] at h
    refine .cons ?_ (ih h.2)
    cases x with
    | d x => exact a
    | p n => exact absurd (show false = true from h.1) Bool.false_ne_true
/-- back from a piece of work that saw none of our cells -/
theorem Sr.back {W : Wd} {α α' : Nat → Addr} {F F' : Hp} {S S' : Sto} {H H' : Hp} (s : Sr W α F S H) (x : Ext α F [] H α' F' S' H') (s' : Sr W α' F' S' H') : Sr W α F' S H' ∧ Ext α F S H α F' S H' := by
  have fr : ∀ a o, H a = some o → H' a = some o := fun a o h => x.frame a o h fun n ⟨c, e, _⟩ => by simp at e
  refine ⟨⟨s'.sub, fun n l => ?_, s.inj, fun n c e => (s.cel n c e).mono (fun _ _ => rfl) (Nat.le_refl _) x.fr fun _ o h => fr _ _ h⟩, ⟨fun _ _ => rfl, Nat.le_refl _, x.fr, fun a o h _ => fr a o h, fun n h1 h2 => absurd (Nat.lt_of_lt_of_le h2 h1) (Nat.lt_irrefl _), fun _ _ h => h, x.dom, fun a o h h' => ?_⟩⟩
  · cases q : F' (α n) with
    | none => rfl
    | some o =>
      obtain ⟨u, hu⟩ := s.there l
      rcases x.fz _ o q (s.sep n l) with z | ⟨m, ⟨c, e, _⟩, _⟩
      · rw [hu] at z; cases z
      · simp at e
  · rcases x.fz a o h h' with z | ⟨m, ⟨c, e, _⟩, _⟩
    · exact .inl z
    · simp at e
theorem goOut_ok {W : Wd} {E : XK} {α α' : Nat → Addr} {F F' : Hp} {S S' : Sto} {H H' : Hp} {v : Vl} {Q : V → Hp → Prop} (s : Sr W α F S H) (p : Post W E (VlX W) α F S H (goOut S v S') Q) (x : Ext α F [] H α' F' S' H') (s' : Sr W α' F' S' H') {w : V} (r : VlR W α' F' S'.length v w) : Q w H' := by
  unfold goOut at p
  cases hf : freeze v S' with
  | none => rw [hf] at p; exact p.elim
  | some q =>
    obtain ⟨d, S2⟩ := q
    rw [hf] at p
    dsimp only at p
    have fin : ∀ {F2 S2}, Ext α F [] H α' F2 S2 H' → Sr W α' F2 S2 H' → Rp W F2 d w → Q w H' := fun {F2 S2} x2 s2 rp => by
      obtain ⟨s3, x3⟩ := s.back x2 s2
      exact p w α F2 H' x3 s3 rp
    cases v with
    | d y =>
      simp only [freeze, Option.some.injEq, Prod.mk.injEq] at hf
      obtain ⟨rfl, rfl⟩ := hf
      exact fin x s' r
    | p n =>
      cases hn : S'[n]? with
      | none => simp [freeze, hn] at hf
      | some c =>
        cases c with
        | lst xs =>
          cases hp : pures xs with
          | none => simp [freeze, hn, hp] at hf
          | some ds =>
            simp only [freeze, hn, hp, Option.some.injEq, Prod.mk.injEq] at hf
            obtain ⟨rfl, rfl⟩ := hf
            obtain ⟨F2, s2, x2, rp⟩ := s'.frzC hn hp
            exact fin (x.trans x2) s2 (by rw [r.1]; exact rp)
        | _ => simp [freeze, hn] at hf
/-- a def of the text, its number, its compiled body -/
structure DefOk (K : PySem.W.Frag) (mg : Str → Option Value) (W : Wd) (G : Gm) (f : Nat) (d : Df) (C : Cs) (n : Nat) (x : Str) (st : Stmt) (fd : FuncData) (ps : List Str) : Prop where
  fn : Fun K x x st (W.fa f) fd
  sp : FnScope C.N ps (defScope st)
  sc : C.sc = defScope st
  wr : C.wr = none
  cs : cSs C n (defBody st) = some d.body
  sl : d.slots = C.N.length
  pr : d.params = ps.length
  bi : Binds K fd ps []
/-- what stands at the module's level -/
structure ModOk (mg : Str → Option Value) (W : Wd) (G : Gm) (C : Cs) : Prop where
  gb : ∀ x, x ∈ C.gb → mg x = none
  gd : ∀ x f, C.gd.lookup x = some f → mg x = some (.ref (W.fa f)) ∧ ∃ d, G.defs f = some d
  gc : ∀ x g, C.gc.lookup x = some g → ∃ v u, mg x = some u ∧ RelV v u ∧ ∀ F, Rp W F (G.con g) v
theorem start_env {W : Wd} {α : Nat → Addr} {F : Hp} {N : Nat} {as : List Vl} {vs : List V} (r : VlRs W α F N as vs) {names : List Str} : EnvR W α F N (as.map some ++ List.replicate (names.length - as.length) none) (L2.start names vs) := by
  have hl := r.length
  unfold L2.start
  rw [← hl]
  refine ⟨by simp [hl], fun i v h => ?_⟩
  by_cases hi : i < as.length
  · rw [List.getElem?_append_left (by simpa using hi), List.getElem?_map] at h
    cases q : as[i]? with
    | none => rw [q] at h; cases h
    | some y =>
      rw [q] at h
      cases h
      obtain ⟨w, e, rr⟩ := r.get q
      exact ⟨w, by rw [List.getElem?_append_left (by rw [List.length_map, ← hl]; exact hi), List.getElem?_map, e]; rfl, rr⟩
  · rw [List.getElem?_append_right (by simpa using hi)] at h
    have := List.mem_iff_getElem?.mpr ⟨_, h⟩
    simp at this
theorem defs_ok {P : Program} {w : World} {K : PySem.W.Frag} {mg : Str → Option Value} {base : Heap} {W : Wd} {G : Gm} (hK : W.K = K)
    (hd : ∀ f d, G.defs f = some d → ∃ C n x st fd ps, DefOk K mg W G f d C n x st fd ps ∧ ModOk mg W G C) :
    ∀ (k : Nat) (f : Nat) (d : Df), G.defs f = some d → ∀ {C n x st fd ps}, DefOk K mg W G f d C n x st fd ps → ModOk mg W G C → FnOk P w K mg base CX0 k (W.fa f) fd ps (spF W (run G k) f)
  | 0, f, d, h, C, n, x, st, fd, ps, D, M => ⟨fun vs H Q E ⟨α, F, S, as, s, r, p⟩ => p.elim, fun A outer s H args us vs Q E hr e0 hb r ⟨α, F, S, as, s', r', p⟩ => p.elim⟩
  | k + 1, f, d, h, C, n, x, st, fd, ps, D, M => by
    have spl : ∀ vs H Q E, spF W (run G (k + 1)) f vs H Q E → ∃ α F S as, Sr W α F S H ∧ VlRs W α F S.length as vs ∧ as.length = d.params ∧
        ∀ D : Ends, D.nx = (fun _ H' => Q .non H') → D.rt = Q → PostS W E α F S H (exs G (run G k) d.body (as.map some ++ List.replicate (d.slots - d.params) none) S) D := fun vs H Q E ⟨α, F, S, as, s, r, p⟩ => by
      unfold run at p
      rw [h] at p
      dsimp only at p
      split at p
      · rename_i hl
        split at p
        · split at p
          · rename_i hda
            refine ⟨α, F, [], as, s.none, r.datas hda, beq_iff_eq.mp hl, fun D e1 e2 => ?_⟩
            cases hx : exs G (run G k) d.body (as.map some ++ List.replicate (d.slots - d.params) none) [] with
            | nx ρ' S' =>
              rw [hx] at p
              intro σ' α' F' H' x' s' er
              obtain ⟨s2, x2⟩ := s.back x' s'
              rw [e1]
              exact p .non α F' H' x2 s2 rfl
            | rt v S' =>
              rw [hx] at p
              intro w α' F' H' x' s' rr
              rw [e2]
              exact goOut_ok s p x' s' rr
            | exc e S' =>
              rw [hx] at p
              intro c dd α' F' H' x' s' rr
              obtain ⟨s2, x2⟩ := s.back x' s'
              exact p c dd α F' H' x2 s2 rr
            | bk ρ' S' => rw [hx] at p; exact p.elim
            | ct ρ' S' => rw [hx] at p; exact p.elim
            | bad => rw [hx] at p; exact p.elim
          · exact p.elim
        · refine ⟨α, F, S, as, s, r, beq_iff_eq.mp hl, fun D e1 e2 => ?_⟩
          cases hx : exs G (run G k) d.body (as.map some ++ List.replicate (d.slots - d.params) none) S with
          | nx ρ' S' =>
            rw [hx] at p
            intro σ' α' F' H' x' s' er
            rw [e1]
            exact leave_ok (v := .d .non) p x' s' rfl
          | rt v S' =>
            rw [hx] at p
            intro w α' F' H' x' s' rr
            rw [e2]
            exact leave_ok p x' s' rr
          | exc e S' =>
            rw [hx] at p
            exact p
          | bk ρ' S' => rw [hx] at p; exact p.elim
          | ct ρ' S' => rw [hx] at p; exact p.elim
          | bad => rw [hx] at p; exact p.elim
      · exact p.elim
    refine D.fn.ok D.sp (fun vs H Q E q => ?_) (fun cdv A outer s H vs Q E hr q => ?_)
    · obtain ⟨α, F, S, as, s, r, hl, p⟩ := spl vs H Q E q
      rw [← r.length, hl, D.pr]
    · obtain ⟨α, F, S, as, sr, r, hl, p⟩ := spl vs H Q E q
      have cx : Cxt (cxOf CX0 P w K mg base C.N x (defScope st) (W.fa f) cdv A outer s H E).nox C W G (run G k) E CX0 k := {
        K := hK
        calm := rfl
        sc := D.sc.symm
        N := rfl
        nd := D.sp.nd
        fn := fun _ _ _ => .inl rfl
        room := hr
        gb := M.gb
        gd := fun y g e => by
          obtain ⟨m1, d', hg⟩ := M.gd y g e
          obtain ⟨C', n', x', st', fd', ps', D', M'⟩ := hd g d' hg
          exact ⟨fd', ps', defs_ok hK hd k g d' hg D' M', m1, D'.fn.kp, D'.bi⟩
        gc := M.gc
        pas := fun _ _ _ _ _ _ _ z => z.elim
        pas0 := fun _ _ _ _ _ _ _ _ z => z.elim
        own := PySem.PassesOwn.never }
      refine ⟨_, (cS_ok n).2 cx D.cs, α, F, as.map some ++ List.replicate (d.slots - d.params) none, S, sr, ?_, ?_⟩
      · rw [D.sl, ← hl]; exact start_env r
      · exact p _ rfl rfl
/-- the law's promise -/
theorem law_sp {W : Wd} {G : Gm} {k f : Nat} {H : Hp} {a : Addr} {ns : List Int} (hK : SqL W.K H a (ns.map V.int)) {S' : Sto} (hr : run G k f [.d (.scr ns)] [] = .ok (.d (.bl true)) S') {E : XK} : spF W (run G k) f [.ref a] H (fun v _ => v = .bl true) E :=
  ⟨fun _ => 0, H, [], [.d (.scr ns)], ⟨Sub.refl H, fun n ⟨c, e, _⟩ => by simp at e, fun m n ⟨c, e, _⟩ => by simp at e, fun n c e => by simp at e⟩, .cons ⟨a, rfl, hK⟩ .nil, by
    rw [hr]
    exact fun w α' F' H' x s r => r⟩
def spLaw (K : PySem.W.Frag) : Sp := fun vs H Q _ => ∃ (a : Addr) (ns : List Int), vs = [.ref a] ∧ SqL K H a (ns.map V.int) ∧ ns.length ≤ 63 ∧ ∀ H', Q (.bl true) H'
theorem law_fn {P : Program} {w : World} {K : PySem.W.Frag} {mg : Str → Option Value} {base : Heap} {W : Wd} {G : Gm} {k f : Nat} {fd : FuncData} {ps : List Str} (hK : W.K = K) (Fk : FnOk P w K mg base CX0 k (W.fa f) fd ps (spF W (run G k) f))
    (hlaw : ∀ ns : List Int, ns.length ≤ 63 → ∃ S', run G k f [.d (.scr ns)] [] = .ok (.d (.bl true)) S') : FnOk P w K mg base CX0 k (W.fa f) fd ps (spLaw K) :=
  Fk.imp fun vs H Q E ⟨a, ns, e, q, hl, kk⟩ => by
    obtain ⟨S', hr⟩ := hlaw ns hl
    subst e hK
    obtain ⟨α, F, S, as, s, r, p⟩ := law_sp (E := E) q hr
    exact ⟨α, F, S, as, s, r, p.imp fun v H' z => by rw [z]; exact kk H'⟩
theorem gd_nil {mg : Str → Option Value} {W : Wd} {G : Gm} : ∀ (x : Str) (f : Nat), ([] : List (Str × Nat)).lookup x = some f → mg x = some (.ref (W.fa f)) ∧ ∃ d, G.defs f = some d := fun _ _ h => nomatch h
theorem gd_cons {mg : Str → Option Value} {W : Wd} {G : Gm} {y : Str} {g : Nat} {l : List (Str × Nat)} (h1 : mg y = some (.ref (W.fa g))) (h2 : ∃ d, G.defs g = some d) (h : ∀ (x : Str) (f : Nat), l.lookup x = some f → mg x = some (.ref (W.fa f)) ∧ ∃ d, G.defs f = some d) :
    ∀ (x : Str) (f : Nat), ((y, g) :: l).lookup x = some f → mg x = some (.ref (W.fa f)) ∧ ∃ d, G.defs f = some d := fun x f e => by
  rw [List.lookup_cons] at e
  cases q : x == y with
  | true =>
    rw [q] at e
    have q := beq_iff_eq.mp q
    cases e
    subst q
    exact ⟨h1, h2⟩
  | false => rw [q] at e; exact h x f e
theorem gc_nil {mg : Str → Option Value} {W : Wd} {G : Gm} : ∀ (x : Str) (g : Nat), ([] : List (Str × Nat)).lookup x = some g → ∃ v u, mg x = some u ∧ RelV v u ∧ ∀ F, Rp W F (G.con g) v := fun _ _ h => nomatch h
theorem gc_cons {mg : Str → Option Value} {W : Wd} {G : Gm} {y : Str} {f : Nat} {l : List (Str × Nat)} (h1 : ∃ v u, mg y = some u ∧ RelV v u ∧ ∀ F, Rp W F (G.con f) v) (h : ∀ (x : Str) (g : Nat), l.lookup x = some g → ∃ v u, mg x = some u ∧ RelV v u ∧ ∀ F, Rp W F (G.con g) v) :
    ∀ (x : Str) (g : Nat), ((y, f) :: l).lookup x = some g → ∃ v u, mg x = some u ∧ RelV v u ∧ ∀ F, Rp W F (G.con g) v := fun x g e => by
  rw [List.lookup_cons] at e
  cases q : x == y with
  | true =>
    rw [q] at e
    have q := beq_iff_eq.mp q
    cases e
    subst q
    exact h1
  | false => rw [q] at e; exact h x g e
theorem gb_nil {mg : Str → Option Value} : ∀ x : Str, x ∈ ([] : List Str) → mg x = none := fun _ h => nomatch h
theorem gb_cons {mg : Str → Option Value} {y : Str} {l : List Str} (h1 : mg y = none) (h : ∀ x : Str, x ∈ l → mg x = none) : ∀ x : Str, x ∈ y :: l → mg x = none := fun x hx => by
  rcases List.mem_cons.mp hx with e | e
  · rw [e]; exact h1
  · exact h x e
theorem walk {l : PySem.W.OpenLaw} {q : Program} {loose : List Str} {XP : (Str → Option Value) → Heap → Prop} {YP : World → Heap → Prop} {d : DefRec} {K : Params → PySem.W.Frag} {k : Nat} (hn : l.most = some 63) (hdf : d.params.defaults = []) (hr : Room k callerA)
    (hY : ∀ (w : World) (h : Heap), YP w h → (K w.params).In h)
    (F : ∀ (w : World) (mg : Str → Option Value) (fa : Addr) (h : Heap), (K w.params).In h → h.Ns mainGlobals mg → mg d.name = some (.ref fa) →
      ∃ fd : FuncData, (∀ (s : Shared) (u : Value), BindsTo s fd ⟨[u], []⟩ [("script", u)]) ∧ ∀ base : Heap, (K w.params).In base → base.Ns mainGlobals mg → FnOk l.prog w (K w.params) mg base CX0 k fa fd ["script"] (spLaw (K w.params))) :
    PySem.W.WalkO q loose XP YP l.row.toRowW d [] (fun f vs => PySem.call f vs) :=
  L2.walk_of (n := 63) (k := k) (x := "script") (CX := fun _ => CX0) (sp := fun w => spLaw (K w.params)) hn (by decide) hdf hr hY F (fun _ _ a ns hl _ hS => ⟨a, ns, rfl, hS, hl, fun _ => rfl⟩) fun _ _ _ _ _ z => z
theorem room60 : Room 60 callerA := ⟨rfl, by decide, by decide⟩
end Z
end

section
set_option maxHeartbeats 1000000
set_option maxRecDepth 10000
/-! Z19: running the small language by rewriting: every continuation has a name, so that nothing is looked at before its turn. -/
namespace Z
open PySem L2

abbrev Rc := Nat → List Vl → Sto → Res Vl
section
variable {α β : Type} {a : α} {e : Exn} {S : Sto} {ρ : Env} {v : Vl}
@[simp] theorem bind_ok (f : α → Sto → Res β) : (Res.ok a S).bind f = f a S := (rfl)
@[simp] theorem bind_bad (f : α → Sto → Res β) : (Res.bad : Res α).bind f = .bad := (rfl)
@[simp] theorem bind_exc (f : α → Sto → Res β) : (Res.exc e S : Res α).bind f = .exc e S := (rfl)
@[simp] theorem thn_ok (f : α → Sto → RS) : (Res.ok a S).thn f = f a S := (rfl)
@[simp] theorem thn_bad (f : α → Sto → RS) : (Res.bad : Res α).thn f = .bad := (rfl)
@[simp] theorem thn_exc (f : α → Sto → RS) : (Res.exc e S : Res α).thn f = .exc e S := (rfl)
@[simp] theorem seq_nx' (f : Env → Sto → RS) : (RS.nx ρ S).seq f = f ρ S := (rfl)
@[simp] theorem seq_rt (f : Env → Sto → RS) : (RS.rt v S).seq f = .rt v S := (rfl)
@[simp] theorem seq_bk (f : Env → Sto → RS) : (RS.bk ρ S).seq f = .bk ρ S := (rfl)
@[simp] theorem seq_ct (f : Env → Sto → RS) : (RS.ct ρ S).seq f = .ct ρ S := (rfl)
@[simp] theorem seq_exc (f : Env → Sto → RS) : (RS.exc e S).seq f = .exc e S := (rfl)
@[simp] theorem seq_bad (f : Env → Sto → RS) : (RS.bad).seq f = .bad := (rfl)
@[simp] theorem mapS_nx (f : Sto → Sto) : (RS.nx ρ S).mapS f = .nx ρ (f S) := (rfl)
@[simp] theorem mapS_rt (f : Sto → Sto) : (RS.rt v S).mapS f = .rt v (f S) := (rfl)
@[simp] theorem seq_ite {c : Prop} [Decidable c] {x y : RS} (f : Env → Sto → RS) : (if c then x else y).seq f = if c then x.seq f else y.seq f := by split <;> rfl
variable {r r' : Res α} {q q' : RS}
end
section
variable {G : Gm} {rc : Rc} {ρ : Env} {S : Sto} {a b c e : Ex} {es ks : List Ex} {o : Op} {x y z : Vl} {i j : Int} {n m : Nat} {d : D} {ds : List D} {vs : List Vl} {k : Bool} {lo hi : Option Ex} {t : Tg} {s : St} {ss tt : List St}
@[simp] theorem ev_var : ev G rc (.var n) ρ S = pick ((ρ[n]?).bind id) S := (rfl)
@[simp] theorem pick_some : pick (some x) S = .ok x S := (rfl)
@[simp] theorem ev_con : ev G rc (.con d) ρ S = .ok (.d d) S := (rfl)
@[simp] theorem ev_glob : ev G rc (.glob n) ρ S = .ok (.d (G.con n)) S := (rfl)
def kOp2 (o : Op) (x : Vl) : Vl → Sto → Res Vl := fun y S => binop o x y S
@[simp] theorem kOp2_a : kOp2 o x y S = binop o x y S := (rfl)
def kOp (G : Gm) (rc : Rc) (o : Op) (b : Ex) (ρ : Env) : Vl → Sto → Res Vl := fun x S => (ev G rc b ρ S).bind (kOp2 o x)
@[simp] theorem kOp_a : kOp G rc o b ρ x S = (ev G rc b ρ S).bind (kOp2 o x) := (rfl)
@[simp] theorem ev_op : ev G rc (.op o a b) ρ S = (ev G rc a ρ S).bind (kOp G rc o b ρ) := (rfl)
def kNeg : Vl → Sto → Res Vl := fun x S => match x with
    | .d (.int i) => .ok (.d (.int (-i))) S
    | _ => .bad
@[simp] theorem kNeg_a : kNeg (.d (.int i)) S = .ok (.d (.int (-i))) S := (rfl)
@[simp] theorem ev_neg : ev G rc (.neg a) ρ S = (ev G rc a ρ S).bind kNeg := (rfl)
def kCm2 (c : Cm) (x : Vl) : Vl → Sto → Res Vl := fun y S => cmpop c x y S
@[simp] theorem kCm2_a {c : Cm} : kCm2 c x y S = cmpop c x y S := (rfl)
def kCm (G : Gm) (rc : Rc) (o : Cm) (b : Ex) (ρ : Env) : Vl → Sto → Res Vl := fun x S => (ev G rc b ρ S).bind (kCm2 o x)
@[simp] theorem kCm_a {c : Cm} : kCm G rc c b ρ x S = (ev G rc b ρ S).bind (kCm2 c x) := (rfl)
@[simp] theorem ev_cmp {c : Cm} : ev G rc (.cmp c a b) ρ S = (ev G rc a ρ S).bind (kCm G rc c b ρ) := (rfl)
def kCh3 (G : Gm) (rc : Rc) (c : Cm) (e : Ex) (ρ : Env) (y : Vl) : Vl → Sto → Res Vl := fun r S => match r with
    | .d (.bl true) => (ev G rc e ρ S).bind (kCm2 c y)
    | .d (.bl false) => .ok (.d (.bl false)) S
    | _ => .bad
@[simp] theorem kCh3_t {c : Cm} : kCh3 G rc c e ρ y (.d (.bl true)) S = (ev G rc e ρ S).bind (kCm2 c y) := (rfl)
@[simp] theorem kCh3_f {c : Cm} : kCh3 G rc c e ρ y (.d (.bl false)) S = .ok (.d (.bl false)) S := (rfl)
def kCh2 (G : Gm) (rc : Rc) (c c' : Cm) (e : Ex) (ρ : Env) (x : Vl) : Vl → Sto → Res Vl := fun y S => (cmpop c x y S).bind (kCh3 G rc c' e ρ y)
@[simp] theorem kCh2_a {c c' : Cm} : kCh2 G rc c c' e ρ x y S = (cmpop c x y S).bind (kCh3 G rc c' e ρ y) := (rfl)
def kCh (G : Gm) (rc : Rc) (c c' : Cm) (b e : Ex) (ρ : Env) : Vl → Sto → Res Vl := fun x S => (ev G rc b ρ S).bind (kCh2 G rc c c' e ρ x)
@[simp] theorem kCh_a {c c' : Cm} : kCh G rc c c' b e ρ x S = (ev G rc b ρ S).bind (kCh2 G rc c c' e ρ x) := (rfl)
@[simp] theorem ev_chain {c c' : Cm} : ev G rc (.chain c c' a b e) ρ S = (ev G rc a ρ S).bind (kCh G rc c c' b e ρ) := (rfl)
def kAnd2 (G : Gm) (rc : Rc) (b : Ex) (ρ : Env) (x : Vl) : Bool → Sto → Res Vl := fun k S => if k then ev G rc b ρ S else .ok x S
@[simp] theorem kAnd2_t : kAnd2 G rc b ρ x true S = ev G rc b ρ S := (rfl)
@[simp] theorem kAnd2_f : kAnd2 G rc b ρ x false S = .ok x S := (rfl)
def kAnd (G : Gm) (rc : Rc) (b : Ex) (ρ : Env) : Vl → Sto → Res Vl := fun x S => (tru x S).bind (kAnd2 G rc b ρ x)
@[simp] theorem kAnd_a : kAnd G rc b ρ x S = (tru x S).bind (kAnd2 G rc b ρ x) := (rfl)
@[simp] theorem ev_and : ev G rc (.and a b) ρ S = (ev G rc a ρ S).bind (kAnd G rc b ρ) := (rfl)
def kOr2 (G : Gm) (rc : Rc) (b : Ex) (ρ : Env) (x : Vl) : Bool → Sto → Res Vl := fun k S => if k then .ok x S else ev G rc b ρ S
@[simp] theorem kOr2_t : kOr2 G rc b ρ x true S = .ok x S := (rfl)
@[simp] theorem kOr2_f : kOr2 G rc b ρ x false S = ev G rc b ρ S := (rfl)
def kOr (G : Gm) (rc : Rc) (b : Ex) (ρ : Env) : Vl → Sto → Res Vl := fun x S => (tru x S).bind (kOr2 G rc b ρ x)
@[simp] theorem kOr_a : kOr G rc b ρ x S = (tru x S).bind (kOr2 G rc b ρ x) := (rfl)
@[simp] theorem ev_or : ev G rc (.or a b) ρ S = (ev G rc a ρ S).bind (kOr G rc b ρ) := (rfl)
def kNot2 : Bool → Sto → Res Vl := fun k S => .ok (.d (.bl (!k))) S
@[simp] theorem kNot2_a : kNot2 k S = .ok (.d (.bl (!k))) S := (rfl)
def kNot : Vl → Sto → Res Vl := fun x S => (tru x S).bind kNot2
@[simp] theorem kNot_a : kNot x S = (tru x S).bind kNot2 := (rfl)
@[simp] theorem ev_not : ev G rc (.not a) ρ S = (ev G rc a ρ S).bind kNot := (rfl)
def kIte2 (G : Gm) (rc : Rc) (a b : Ex) (ρ : Env) : Bool → Sto → Res Vl := fun k S => if k then ev G rc a ρ S else ev G rc b ρ S
@[simp] theorem kIte2_t : kIte2 G rc a b ρ true S = ev G rc a ρ S := (rfl)
@[simp] theorem kIte2_f : kIte2 G rc a b ρ false S = ev G rc b ρ S := (rfl)
def kIte (G : Gm) (rc : Rc) (a b : Ex) (ρ : Env) : Vl → Sto → Res Vl := fun x S => (tru x S).bind (kIte2 G rc a b ρ)
@[simp] theorem kIte_a : kIte G rc a b ρ x S = (tru x S).bind (kIte2 G rc a b ρ) := (rfl)
@[simp] theorem ev_ite : ev G rc (.ite c a b) ρ S = (ev G rc c ρ S).bind (kIte G rc a b ρ) := (rfl)
def kTup : List Vl → Sto → Res Vl := fun vs S => match pures vs with
    | some ds => if decide (ds.length ≤ most) then .ok (.d (.tup ds)) S else .bad
    | none => .bad
@[simp] theorem kTup_a : kTup vs S = (match pures vs with
    | some ds => if decide (ds.length ≤ most) then .ok (.d (.tup ds)) S else .bad
    | none => .bad) := (rfl)
@[simp] theorem ev_tup : ev G rc (.tup es) ρ S = (evs G rc es ρ S).bind kTup := (rfl)
def kLst (cell : Bool) : List Vl → Sto → Res Vl := fun vs S => newList cell vs S
@[simp] theorem kLst_a : kLst k vs S = newList k vs S := (rfl)
@[simp] theorem ev_lst : ev G rc (.lst k es) ρ S = (evs G rc es ρ S).bind (kLst k) := (rfl)
def kIx2 (x : Vl) : Vl → Sto → Res Vl := fun y S => index x y S
@[simp] theorem kIx2_a : kIx2 x y S = index x y S := (rfl)
def kIx (G : Gm) (rc : Rc) (b : Ex) (ρ : Env) : Vl → Sto → Res Vl := fun x S => (ev G rc b ρ S).bind (kIx2 x)
@[simp] theorem kIx_a : kIx G rc b ρ x S = (ev G rc b ρ S).bind (kIx2 x) := (rfl)
@[simp] theorem ev_ix : ev G rc (.ix a b) ρ S = (ev G rc a ρ S).bind (kIx G rc b ρ) := (rfl)
def kSome : Vl → Sto → Res (Option Int) := fun v S => match v with
    | .d (.int i) => .ok (some i) S
    | _ => .bad
@[simp] theorem kSome_a : kSome (.d (.int i)) S = .ok (some i) S := (rfl)
@[simp] theorem evo_none : evo G rc none ρ S = .ok none S := (rfl)
@[simp] theorem evo_some : evo G rc (some a) ρ S = (ev G rc a ρ S).bind kSome := (rfl)
def kSl3 (x : Vl) (l : Option Int) : Option Int → Sto → Res Vl := fun h S => slice x l h S
@[simp] theorem kSl3_a {l h : Option Int} : kSl3 x l h S = slice x l h S := (rfl)
def kSl2 (G : Gm) (rc : Rc) (hi : Option Ex) (ρ : Env) (x : Vl) : Option Int → Sto → Res Vl := fun l S => (evo G rc hi ρ S).bind (kSl3 x l)
@[simp] theorem kSl2_a {l : Option Int} : kSl2 G rc hi ρ x l S = (evo G rc hi ρ S).bind (kSl3 x l) := (rfl)
def kSl (G : Gm) (rc : Rc) (lo hi : Option Ex) (ρ : Env) : Vl → Sto → Res Vl := fun x S => (evo G rc lo ρ S).bind (kSl2 G rc hi ρ x)
@[simp] theorem kSl_a : kSl G rc lo hi ρ x S = (evo G rc lo ρ S).bind (kSl2 G rc hi ρ x) := (rfl)
@[simp] theorem ev_sl : ev G rc (.sl a lo hi) ρ S = (ev G rc a ρ S).bind (kSl G rc lo hi ρ) := (rfl)
def kCall (rc : Rc) (f : Nat) : List Vl → Sto → Res Vl := fun vs S => rc f vs S
@[simp] theorem kCall_a : kCall rc n vs S = rc n vs S := (rfl)
@[simp] theorem ev_call : ev G rc (.call n es) ρ S = (evs G rc es ρ S).bind (kCall rc n) := (rfl)
def kBf (b : Bf) (cell : Bool) : List Vl → Sto → Res Vl := fun vs S => builtin b cell vs S
@[simp] theorem kBf_a {b : Bf} : kBf b k vs S = builtin b k vs S := (rfl)
@[simp] theorem ev_bf {b : Bf} : ev G rc (.bf b k es) ρ S = (evs G rc es ρ S).bind (kBf b k) := (rfl)
def kBm2 (m : Bm) (x : Vl) : List Vl → Sto → Res Vl := fun vs S => method m x vs S
@[simp] theorem kBm2_a {m : Bm} : kBm2 m x vs S = method m x vs S := (rfl)
def kBm (G : Gm) (rc : Rc) (m : Bm) (es : List Ex) (ρ : Env) : Vl → Sto → Res Vl := fun x S => if bmTy m x S then (evs G rc es ρ S).bind (kBm2 m x) else .bad
@[simp] theorem kBm_a {m : Bm} : kBm G rc m es ρ x S = if bmTy m x S then (evs G rc es ρ S).bind (kBm2 m x) else .bad := (rfl)
@[simp] theorem ev_bm {m : Bm} : ev G rc (.bm m a es) ρ S = (ev G rc a ρ S).bind (kBm G rc m es ρ) := (rfl)
def kCons2 (v : Vl) : List Vl → Sto → Res (List Vl) := fun vs S => .ok (v :: vs) S
@[simp] theorem kCons2_a : kCons2 x vs S = .ok (x :: vs) S := (rfl)
def kCons (G : Gm) (rc : Rc) (es : List Ex) (ρ : Env) : Vl → Sto → Res (List Vl) := fun v S => (evs G rc es ρ S).bind (kCons2 v)
@[simp] theorem kCons_a : kCons G rc es ρ x S = (evs G rc es ρ S).bind (kCons2 x) := (rfl)
@[simp] theorem evs_nil : evs G rc [] ρ S = .ok [] S := (rfl)
@[simp] theorem evs_cons : evs G rc (e :: es) ρ S = (ev G rc e ρ S).bind (kCons G rc es ρ) := (rfl)
@[simp] theorem evc_none : evc G rc none ρ S = .ok true S := (rfl)
@[simp] theorem evc_some : evc G rc (some e) ρ S = (ev G rc e ρ S).bind tru := (rfl)
def kYld : Vl → Sto → Res (Option Vl) := fun y S => .ok (some y) S
@[simp] theorem kYld_a : kYld x S = .ok (some x) S := (rfl)
def kIf (G : Gm) (rc : Rc) (e : Ex) (ρ : Env) : Bool → Sto → Res (Option Vl) := fun b S => if b then (ev G rc e ρ S).bind kYld else .ok none S
@[simp] theorem kIf_t : kIf G rc e ρ true S = (ev G rc e ρ S).bind kYld := (rfl)
@[simp] theorem kIf_f : kIf G rc e ρ false S = .ok none S := (rfl)
/-- a turn of a comprehension -/
def lcB (G : Gm) (rc : Rc) (c : Option Ex) (e : Ex) : Env → Sto → Res (Option Vl) := fun ρ S => (evc G rc c ρ S).bind (kIf G rc e ρ)
@[simp] theorem lcB_a {c : Option Ex} : lcB G rc c e ρ S = (evc G rc c ρ S).bind (kIf G rc e ρ) := (rfl)
def kLc2 (cell : Bool) (lk : Option (Nat × Cell)) : List Vl → Sto → Res Vl := fun ys S => newList cell ys (unlock S lk)
@[simp] theorem kLc2_a {lk : Option (Nat × Cell)} : kLc2 k lk vs S = newList k vs (unlock S lk) := (rfl)
def kLc (G : Gm) (rc : Rc) (cell : Bool) (c : Option Ex) (e : Ex) (t : Tg) (ρ : Env) : List Vl × Option (Nat × Cell) → Sto → Res Vl := fun q S => (turns (lcB G rc c e) t ρ q.1 [] (lock S q.2)).bind (kLc2 cell q.2)
@[simp] theorem kLc_a {c : Option Ex} {lk : Option (Nat × Cell)} : kLc G rc k c e t ρ (vs, lk) S = (turns (lcB G rc c e) t ρ vs [] (lock S lk)).bind (kLc2 k lk) := (rfl)
def kWk (k : Ik) : List Vl → Sto → Res (List Vl × Option (Nat × Cell)) := fun vs S => walkF k vs S
@[simp] theorem kWk_a {k : Ik} : kWk k vs S = walkF k vs S := (rfl)
@[simp] theorem ev_lc {k' : Ik} {c : Option Ex} {own : List Nat} : ev G rc (.lc k e t own k' es c) ρ S = ((evs G rc es ρ S).bind (kWk k')).bind (kLc G rc k c e t (wipe ρ own)) := (rfl)
def sRt : Vl → Sto → RS := fun v S => .rt v S
@[simp] theorem sRt_a : sRt x S = .rt x S := (rfl)
@[simp] theorem exs_nil : exs G rc [] ρ S = .nx ρ S := (rfl)
@[simp] theorem exs_cons : exs G rc (s :: ss) ρ S = (ex G rc s ρ S).seq (exs G rc ss) := (rfl)
def sBind (r : Option Env) (S : Sto) : RS := match r with
    | some ρ => .nx ρ S
    | none => .bad
@[simp] theorem sBind_s : sBind (some ρ) S = .nx ρ S := (rfl)
def sAsg (t : Tg) (ρ : Env) : Vl → Sto → RS := fun v S => sBind (bindT t v ρ) S
@[simp] theorem sAsg_v : sAsg (.var n) ρ x S = .nx (ρ.set n (some x)) S := (rfl)
@[simp] theorem sAsg_t {ts : List Tg} : sAsg (.tup ts) ρ x S = sBind (bindT (.tup ts) x ρ) S := (rfl)
@[simp] theorem ex_asg : ex G rc (.asg t e) ρ S = (ev G rc e ρ S).thn (sAsg t ρ) := (rfl)
def sStore (ρ : Env) (r : Option Sto) : RS := match r with
    | some S => .nx ρ S
    | none => .bad
@[simp] theorem sStore_s : sStore ρ (some S) = .nx ρ S := (rfl)
def sSub3 (ρ : Env) (v x : Vl) : Vl → Sto → RS := fun k S => sStore ρ (setItem x k v S)
@[simp] theorem sSub3_a : sSub3 ρ x y z S = sStore ρ (setItem y z x S) := (rfl)
def sSub2 (G : Gm) (rc : Rc) (i : Ex) (ρ : Env) (v : Vl) : Vl → Sto → RS := fun x S => (ev G rc i ρ S).thn (sSub3 ρ v x)
@[simp] theorem sSub2_a : sSub2 G rc a ρ x y S = (ev G rc a ρ S).thn (sSub3 ρ x y) := (rfl)
def sSub (G : Gm) (rc : Rc) (o i : Ex) (ρ : Env) : Vl → Sto → RS := fun v S => (ev G rc o ρ S).thn (sSub2 G rc i ρ v)
@[simp] theorem sSub_a : sSub G rc a b ρ x S = (ev G rc a ρ S).thn (sSub2 G rc b ρ x) := (rfl)
@[simp] theorem ex_sub : ex G rc (.sub a b e) ρ S = (ev G rc e ρ S).thn (sSub G rc a b ρ) := (rfl)
def sSet (n : Nat) (ρ : Env) : Vl → Sto → RS := fun z S => .nx (ρ.set n (some z)) S
@[simp] theorem sSet_a : sSet n ρ x S = .nx (ρ.set n (some x)) S := (rfl)
def sAug2 (n : Nat) (o : Op) (ρ : Env) (x : Vl) : Vl → Sto → RS := fun y S => (augop o x y S).thn (sSet n ρ)
@[simp] theorem sAug2_a : sAug2 n o ρ x y S = (augop o x y S).thn (sSet n ρ) := (rfl)
def sAug (G : Gm) (rc : Rc) (n : Nat) (o : Op) (e : Ex) (ρ : Env) : Vl → Sto → RS := fun x S => (ev G rc e ρ S).thn (sAug2 n o ρ x)
@[simp] theorem sAug_a : sAug G rc n o e ρ x S = (ev G rc e ρ S).thn (sAug2 n o ρ x) := (rfl)
@[simp] theorem ex_aug : ex G rc (.aug n o e) ρ S = (pick ((ρ[n]?).bind id) S).thn (sAug G rc n o e ρ) := (rfl)
def sNx (ρ : Env) : Vl → Sto → RS := fun _ S => .nx ρ S
@[simp] theorem sNx_a : sNx ρ x S = .nx ρ S := (rfl)
@[simp] theorem ex_expr : ex G rc (.expr e) ρ S = (ev G rc e ρ S).thn (sNx ρ) := (rfl)
@[simp] theorem ex_ret : ex G rc (.ret e) ρ S = (ev G rc e ρ S).thn sRt := (rfl)
def sIf2 (G : Gm) (rc : Rc) (ss tt : List St) (ρ : Env) : Bool → Sto → RS := fun k S => if k then exs G rc ss ρ S else exs G rc tt ρ S
@[simp] theorem sIf2_t : sIf2 G rc ss tt ρ true S = exs G rc ss ρ S := (rfl)
@[simp] theorem sIf2_f : sIf2 G rc ss tt ρ false S = exs G rc tt ρ S := (rfl)
def sIf (G : Gm) (rc : Rc) (ss tt : List St) (ρ : Env) : Vl → Sto → RS := fun x S => (tru x S).thn (sIf2 G rc ss tt ρ)
@[simp] theorem sIf_a : sIf G rc ss tt ρ x S = (tru x S).thn (sIf2 G rc ss tt ρ) := (rfl)
@[simp] theorem ex_ifs : ex G rc (.ifs c ss tt) ρ S = (ev G rc c ρ S).thn (sIf G rc ss tt ρ) := (rfl)
/-- a while's test -/
def tst (G : Gm) (rc : Rc) (c : Ex) : Env → Sto → Res Bool := fun ρ S => (ev G rc c ρ S).bind tru
@[simp] theorem tst_a : tst G rc c ρ S = (ev G rc c ρ S).bind tru := (rfl)
@[simp] theorem ex_whl : ex G rc (.whl c ss) ρ S = whl (tst G rc c) (exs G rc ss) G.fuel ρ S := (rfl)
def unl (lk : Option (Nat × Cell)) : Sto → Sto := fun S => unlock S lk
@[simp] theorem unl_a {lk : Option (Nat × Cell)} : unl lk S = unlock S lk := (rfl)
def sFor (G : Gm) (rc : Rc) (t : Tg) (ss : List St) (ρ : Env) : List Vl × Option (Nat × Cell) → Sto → RS := fun q S => (fors (exs G rc ss) t q.1 ρ (lock S q.2)).mapS (unl q.2)
@[simp] theorem sFor_a {lk : Option (Nat × Cell)} : sFor G rc t ss ρ (vs, lk) S = (fors (exs G rc ss) t vs ρ (lock S lk)).mapS (unl lk) := (rfl)
@[simp] theorem ex_fors {k : Ik} : ex G rc (.fors t k es ss) ρ S = ((evs G rc es ρ S).bind (kWk k)).thn (sFor G rc t ss ρ) := (rfl)
@[simp] theorem ex_brk : ex G rc .brk ρ S = .bk ρ S := (rfl)
@[simp] theorem ex_cnt : ex G rc .cnt ρ S = .ct ρ S := (rfl)
@[simp] theorem ex_pass : ex G rc .pass ρ S = .nx ρ S := (rfl)
def sFrz (r : Option (Env × Sto)) : RS := match r with
    | some (ρ, S) => .nx ρ S
    | none => .bad
@[simp] theorem sFrz_s : sFrz (some (ρ, S)) = .nx ρ S := (rfl)
@[simp] theorem ex_frz {is : List Nat} : ex G rc (.frz is) ρ S = sFrz (frz is ρ S) := (rfl)
@[simp] theorem pures_nil : pures [] = some [] := (rfl)
@[simp] theorem pures_d : pures (.d d :: vs) = (pures vs).map (d :: ·) := by
  show (match Vl.d d, pures vs with
    | .d x, some xs => some (x :: xs)
    | _, _ => none) = _
  cases pures vs <;> rfl
@[simp] theorem lock_none : lock S none = S := (rfl)
@[simp] theorem unlock_none : unlock S none = S := (rfl)
@[simp] theorem wipe_nil : wipe ρ [] = ρ := (rfl)
@[simp] theorem wipe_cons {ns : List Nat} : wipe ρ (n :: ns) = (wipe ρ ns).set n none := (rfl)
end
/-- what is left of a run behind a def's body -/
def outA (S : Sto) (r : RS) : Res Vl := match r with
  | .nx _ _ => .ok (.d .non) S
  | .rt v S' => goOut S v S'
  | .exc e _ => .exc e S
  | _ => .bad
def outK (keep : Bool) (S : Sto) (r : RS) : Res Vl := match r with
  | .nx _ S' => leave keep S (.d .non) S'
  | .rt v S' => leave keep S v S'
  | .exc e S' => .exc e S'
  | _ => .bad
section
variable {S S' : Sto} {v : Vl} {ρ : Env} {e : Exn} {k : Bool} {d : D} {n : Nat}
@[simp] theorem outA_nx : outA S (.nx ρ S') = .ok (.d .non) S := (rfl)
@[simp] theorem outA_rt : outA S (.rt v S') = goOut S v S' := (rfl)
@[simp] theorem outK_nx : outK k S (.nx ρ S') = leave k S (.d .non) S' := (rfl)
@[simp] theorem outK_rt : outK k S (.rt v S') = leave k S v S' := (rfl)
@[simp] theorem goOut_d : goOut S (.d d) S' = .ok (.d d) S := (rfl)
@[simp] theorem leave_k : leave true S v S' = .ok v S' := (rfl)
theorem run_alone {G : Gm} {k f : Nat} {as : List Vl} {S : Sto} {d : Df} (h : G.defs f = some d) (ha : d.alone = true) (hl : as.length = d.params) (hda : as.all dataO = true) : run G (k + 1) f as S = outA S (exs G (run G k) d.body (as.map some ++ List.replicate (d.slots - d.params) none) []) := by
  unfold run
  rw [h]
  dsimp only
  rw [if_pos (beq_iff_eq.mpr hl), if_pos ha, if_pos hda]
  rfl
theorem run_keep {G : Gm} {k f : Nat} {as : List Vl} {S : Sto} {d : Df} (h : G.defs f = some d) (ha : d.alone = false) (hl : as.length = d.params) : run G (k + 1) f as S = outK d.keep S (exs G (run G k) d.body (as.map some ++ List.replicate (d.slots - d.params) none) S) := by
  unfold run
  rw [h]
  dsimp only
  rw [if_pos (beq_iff_eq.mpr hl), if_neg (by rw [ha]; exact Bool.false_ne_true)]
  rfl
end
section
variable {i j : Int} {s t : Tx} {b c : Bool} {x y : D} {xs ys : List D} {S : Sto} {n : Nat} {v w : Vl}
@[simp] theorem add_int : binop .add (.d (.int i)) (.d (.int j)) S = .ok (.d (.int (i + j))) S := (rfl)
@[simp] theorem add_str : binop .add (.d (.str s)) (.d (.str t)) S = if decide (s.length + t.length ≤ most) then .ok (.d (.str (s ++ t))) S else .bad := (rfl)
@[simp] theorem add_tup : binop .add (.d (.tup xs)) (.d (.tup ys)) S = if !xs.isEmpty && decide (xs.length + ys.length ≤ most) then .ok (.d (.tup (xs ++ ys))) S else .bad := (rfl)
@[simp] theorem pures_map (ds : List D) : pures (ds.map .d) = some ds := by
  induction ds with
  | nil => rfl
  | cons a ns ih => simp [pures, ih]
@[simp] theorem pures_map' (ds : List D) : pures (ds.map fun x => .d x) = some ds := pures_map ds
@[simp] theorem pures_mapf {τ : Type} (f : τ → D) (ds : List τ) : pures (ds.map fun x => .d (f x)) = some (ds.map f) := by
  induction ds with
  | nil => rfl
  | cons a ns ih => simp [pures, ih]
@[simp] theorem add_lst : binop .add (.d (.lst xs)) (.d (.lst ys)) S = if decide (xs.length + ys.length ≤ most) then .ok (.d (.lst (xs ++ ys))) S else .bad := by
  simp [binop, opAdd, catL, listOf]
@[simp] theorem sub_int : binop .sub (.d (.int i)) (.d (.int j)) S = .ok (.d (.int (i - j))) S := (rfl)
@[simp] theorem mul_int : binop .mul (.d (.int i)) (.d (.int j)) S = if cMul i j then .ok (.d (.int (i * j))) S else .bad := (rfl)
@[simp] theorem mul_lst : binop .mul (.d (.lst xs)) (.d (.int j)) S = if decide (-(2 ^ 63) ≤ j) && decide (j < 2 ^ 63) && decide (xs.length * j.toNat ≤ most) then .ok (.d (.lst (List.replicate j.toNat xs).flatten)) S else .bad := by
  simp [binop, opMul, repL, listOf]
@[simp] theorem fdiv_int : binop .fdiv (.d (.int i)) (.d (.int j)) S = if decide (0 < j) && decide (j < 1073741824) then .ok (.d (.int (i / j))) S else .bad := (rfl)
@[simp] theorem mod_int : binop .mod (.d (.int i)) (.d (.int j)) S = if decide (0 < j) then .ok (.d (.int (i % j))) S else .bad := (rfl)
@[simp] theorem pow_int : binop .pow (.d (.int i)) (.d (.int j)) S = if cPow i j then .ok (.d (.int (i ^ j.toNat))) S else .bad := (rfl)
@[simp] theorem shl_int : binop .shl (.d (.int i)) (.d (.int j)) S = if cPow i j then .ok (.d (.int (i * 2 ^ j.toNat))) S else .bad := (rfl)
@[simp] theorem augadd_int : augop .add (.d (.int i)) (.d (.int j)) S = .ok (.d (.int (i + j))) S := (rfl)
@[simp] theorem augadd_str : augop .add (.d (.str s)) (.d (.str t)) S = if decide (s.length + t.length ≤ most) then .ok (.d (.str (s ++ t))) S else .bad := (rfl)
@[simp] theorem augsub_int : augop .sub (.d (.int i)) (.d (.int j)) S = .ok (.d (.int (i - j))) S := (rfl)
@[simp] theorem eq_a : cmpop .eq v w S = cEqv false v w S := (rfl)
@[simp] theorem ne_a : cmpop .ne v w S = cEqv true v w S := (rfl)
@[simp] theorem eqv_dd (k : Bool) : cEqv k (.d x) (.d y) S = if eqOk x y then .ok (.d (.bl (if k then !eqv x y else eqv x y))) S else .bad := (rfl)
@[simp] theorem lt_int : cmpop .lt (.d (.int i)) (.d (.int j)) S = .ok (.d (.bl (decide (i < j)))) S := (rfl)
@[simp] theorem le_int : cmpop .le (.d (.int i)) (.d (.int j)) S = .ok (.d (.bl (decide (i ≤ j)))) S := (rfl)
@[simp] theorem gt_int : cmpop .gt (.d (.int i)) (.d (.int j)) S = .ok (.d (.bl (decide (j < i)))) S := (rfl)
@[simp] theorem ge_int : cmpop .ge (.d (.int i)) (.d (.int j)) S = .ok (.d (.bl (decide (j ≤ i)))) S := (rfl)
@[simp] theorem lt_str : cmpop .lt (.d (.str s)) (.d (.str t)) S = .ok (.d (.bl (ltTx s t))) S := (rfl)
@[simp] theorem lt_tup : cmpop .lt (.d (.tup xs)) (.d (.tup ys)) S = if ordOk (.tup xs) (.tup ys) then .ok (.d (.bl (ltDt (.tup xs) (.tup ys)))) S else .bad := (rfl)
@[simp] theorem le_tup : cmpop .le (.d (.tup xs)) (.d (.tup ys)) S = if ordOk (.tup xs) (.tup ys) then .ok (.d (.bl (!ltDt (.tup ys) (.tup xs)))) S else .bad := (rfl)
@[simp] theorem gt_tup : cmpop .gt (.d (.tup xs)) (.d (.tup ys)) S = if ordOk (.tup xs) (.tup ys) then .ok (.d (.bl (ltDt (.tup ys) (.tup xs)))) S else .bad := (rfl)
@[simp] theorem ge_tup : cmpop .ge (.d (.tup xs)) (.d (.tup ys)) S = if ordOk (.tup xs) (.tup ys) then .ok (.d (.bl (!ltDt (.tup xs) (.tup ys)))) S else .bad := (rfl)
@[simp] theorem le_str : cmpop .le (.d (.str s)) (.d (.str t)) S = .ok (.d (.bl (!ltTx t s))) S := (rfl)
@[simp] theorem gt_str : cmpop .gt (.d (.str s)) (.d (.str t)) S = .ok (.d (.bl (ltTx t s))) S := (rfl)
@[simp] theorem ge_str : cmpop .ge (.d (.str s)) (.d (.str t)) S = .ok (.d (.bl (!ltTx s t))) S := (rfl)
@[simp] theorem is_non : cmpop .is v (.d .non) S = .ok (.d (.bl (isNone v))) S := (rfl)
@[simp] theorem isn_non : cmpop .isn v (.d .non) S = .ok (.d (.bl (!isNone v))) S := (rfl)
@[simp] theorem is_bl : cmpop .is (.d (.bl b)) (.d (.bl c)) S = .ok (.d (.bl (decide (b = c)))) S := (rfl)
theorem memL_flat {k : Bool} (hx : isFlat x = true) (hs : xs.all isFlat = true) : cMem k (.d x) (.d (.lst xs)) S = .ok (.d (.bl (if k then !(xs.any fun e => eqv e x) else xs.any fun e => eqv e x))) S := by
  simp [cMem, contains, seqOf, memFlat, hx, hs]
theorem memT_flat {k : Bool} (hx : isFlat x = true) (hs : xs.all isFlat = true) : cMem k (.d x) (.d (.tup xs)) S = .ok (.d (.bl (if k then !(xs.any fun e => eqv e x) else xs.any fun e => eqv e x))) S := by
  simp [cMem, contains, seqOf, memFlat, hx, hs]
theorem memL_deep {k : Bool} (hx : isData 64 x = true) (hs : isData 64 (.lst xs) = true) : cMem k (.d x) (.d (.lst xs)) S = .ok (.d (.bl (if k then !(xs.any fun e => eqv e x) else xs.any fun e => eqv e x))) S := by
  by_cases hf : (isFlat x && xs.all isFlat) = true
  · rw [Bool.and_eq_true] at hf
    exact memL_flat hf.1 hf.2
  · simp [cMem, contains, seqOf, listOf, memFlat, hf, hx, hs]
@[simp] theorem mem_chr {k : Bool} {c : Nat} : cMem k (.d (.str [c])) (.d (.str t)) S = .ok (.d (.bl (if k then !decide (c ∈ t) else decide (c ∈ t)))) S := (rfl)
@[simp] theorem mem_a : cmpop .mem v w S = cMem false v w S := (rfl)
@[simp] theorem nmem_a : cmpop .nmem v w S = cMem true v w S := (rfl)
@[simp] theorem isNone_non : isNone (.d .non) = true := (rfl)
@[simp] theorem isNone_bl : isNone (.d (.bl b)) = false := (rfl)
@[simp] theorem isNone_int : isNone (.d (.int i)) = false := (rfl)
@[simp] theorem isNone_str : isNone (.d (.str s)) = false := (rfl)
@[simp] theorem isNone_tup : isNone (.d (.tup xs)) = false := (rfl)
@[simp] theorem isNone_lst : isNone (.d (.lst xs)) = false := (rfl)
@[simp] theorem isNone_p : isNone (.p n) = false := (rfl)
@[simp] theorem tru_non : tru (.d .non) S = .ok false S := (rfl)
@[simp] theorem tru_bl : tru (.d (.bl b)) S = .ok b S := (rfl)
@[simp] theorem tru_int : tru (.d (.int i)) S = .ok (i != 0) S := (rfl)
@[simp] theorem tru_lst : tru (.d (.lst xs)) S = .ok (!xs.isEmpty) S := (rfl)
@[simp] theorem tru_tup : tru (.d (.tup xs)) S = .ok (!xs.isEmpty) S := (rfl)
@[simp] theorem truthy_str : truthy (.d (.str s)) S = if decide (s.length ≤ most) then some ((s.length : Int) != 0) else none := (rfl)
@[simp] theorem tru_str : tru (.d (.str s)) S = match truthy (.d (.str s)) S with
  | some b => .ok b S
  | none => .bad := (rfl)
@[simp] theorem bf1_len {k : Bool} : builtin .len k [v] S = bLen v S := (rfl)
@[simp] theorem bf1_abs {k : Bool} : builtin .abs k [.d (.int i)] S = .ok (.d (.int (if i < 0 then -i else i))) S := (rfl)
@[simp] theorem bf1_int {k : Bool} : builtin .int k [.d (.int i)] S = .ok (.d (.int i)) S := (rfl)
@[simp] theorem bf1_intb {k : Bool} : builtin .int k [.d (.bl b)] S = .ok (.d (.int (if b then 1 else 0))) S := (rfl)
@[simp] theorem bf1_list {k : Bool} : builtin .list k [v] S = bList k v S := (rfl)
@[simp] theorem bf1_tuple {k : Bool} : builtin .tuple k [v] S = bTuple v S := (rfl)
@[simp] theorem bf1_sum {k : Bool} : builtin .sum k [v] S = bOf intL (fun is => .int is.sum) v S := (rfl)
@[simp] theorem bf1_any {k : Bool} : builtin .any k [v] S = bOf boolL (fun bs => .bl (bs.any id)) v S := (rfl)
@[simp] theorem bf1_all {k : Bool} : builtin .all k [v] S = bOf boolL (fun bs => .bl (bs.all id)) v S := (rfl)
@[simp] theorem bf1_isi {k : Bool} {ts : List Nat} : builtin (.isinst ts) k [v] S = bIsi ts v S := (rfl)
@[simp] theorem bf1_sorted {k : Bool} : builtin .sorted k [v] S = bSorted k v S := (rfl)
@[simp] theorem bSorted_lst {k : Bool} : bSorted k (.d (.lst xs)) S = if sortOk xs then newList k ((xs.mergeSort leDt).map .d) S else .bad := by
  simp [bSorted, listOf]
@[simp] theorem bm1_index : method .index (.d (.lst xs)) [w] S = mIndex (.d (.lst xs)) w S := (rfl)
@[simp] theorem bm1_indexS : method .index (.d (.str s)) [w] S = sIndex (.d (.str s)) w S := (rfl)
@[simp] theorem bmTy_indexL : bmTy .index (.d (.lst xs)) S = true := (rfl)
@[simp] theorem bmTy_indexS : bmTy .index (.d (.str s)) S = true := (rfl)
theorem mIndex_lst : mIndex (.d (.lst xs)) (.d y) S = if isData 64 (.lst xs) && isData 64 y then (match xs.findIdx? (fun e => eqv e y) with
      | some j => .ok (.d (.int (j : Int))) S
      | none => .bad) else .bad := by
  show (match pures (xs.map .d) with
    | some ds => if isData 64 (.lst ds) && isData 64 y then (match ds.findIdx? (fun e => eqv e y) with
      | some j => Res.ok (Vl.d (.int (j : Int))) S
      | none => .bad) else .bad
    | none => .bad) = _
  rw [pures_map]
@[simp] theorem bf2_min {k : Bool} : builtin .min k [.d (.int i), .d (.int j)] S = .ok (.d (.int (if j < i then j else i))) S := (rfl)
@[simp] theorem bf2_max {k : Bool} : builtin .max k [.d (.int i), .d (.int j)] S = .ok (.d (.int (if j > i then j else i))) S := (rfl)
@[simp] theorem bOf_lst {τ : Type} {f : List D → Option τ} {g : τ → D} : bOf f g (.d (.lst xs)) S = match f xs with
  | some t => .ok (.d (g t)) S
  | none => .bad := by
  show (match pures (xs.map .d) with
    | some ds => match f ds with
      | some t => Res.ok (Vl.d (g t)) S
      | none => .bad
    | none => .bad) = _
  rw [pures_map]
@[simp] theorem seqOf_lst : seqOf (.d (.lst xs)) S = some (xs.map .d) := (rfl)
@[simp] theorem seqOf_tup : seqOf (.d (.tup xs)) S = some (xs.map .d) := (rfl)
@[simp] theorem seqOf_str : seqOf (.d (.str s)) S = none := (rfl)
@[simp] theorem listOf_lst : listOf (.d (.lst xs)) S = some (xs.map .d) := (rfl)
@[simp] theorem listOf_str : listOf (.d (.str s)) S = none := (rfl)
@[simp] theorem listOf_tup : listOf (.d (.tup xs)) S = none := (rfl)
@[simp] theorem bLen_lst : bLen (.d (.lst xs)) S = .ok (.d (.int xs.length)) S := by simp [bLen]
@[simp] theorem bLen_tup : bLen (.d (.tup xs)) S = .ok (.d (.int xs.length)) S := by simp [bLen]
@[simp] theorem bLen_str : bLen (.d (.str s)) S = if decide (s.length ≤ most) then .ok (.d (.int s.length)) S else .bad := (rfl)
@[simp] theorem bIsi_non {ts : List Nat} : bIsi ts (.d .non) S = .ok (.d (.bl false)) S := by simp [bIsi, isTypes, typeOf]
@[simp] theorem bIsi_bl {ts : List Nat} : bIsi ts (.d (.bl b)) S = .ok (.d (.bl (ts.any fun t => [0, 4].contains t))) S := (rfl)
@[simp] theorem bIsi_int {ts : List Nat} : bIsi ts (.d (.int i)) S = .ok (.d (.bl (ts.any fun t => [0].contains t))) S := (rfl)
@[simp] theorem bIsi_str {ts : List Nat} : bIsi ts (.d (.str s)) S = .ok (.d (.bl (ts.any fun t => [1].contains t))) S := (rfl)
@[simp] theorem bIsi_lst {ts : List Nat} : bIsi ts (.d (.lst xs)) S = .ok (.d (.bl (ts.any fun t => [2].contains t))) S := (rfl)
@[simp] theorem bIsi_tup {ts : List Nat} : bIsi ts (.d (.tup xs)) S = .ok (.d (.bl (ts.any fun t => [3].contains t))) S := (rfl)
@[simp] theorem bm1_append : method .append v [w] S = mAppend v w S := (rfl)
@[simp] theorem bm1_extend : method .extend v [w] S = mExtend v w S := (rfl)
@[simp] theorem bm0_pop : method .pop v [] S = mPop v S := (rfl)
@[simp] theorem bm1_join : method .join v [w] S = mJoin v w S := (rfl)
@[simp] theorem bm1_count : method .count (.d (.str s)) [.d (.str t)] S = .ok (.d (.int (Txt.count (mk s) (mk t)))) S := (rfl)
@[simp] theorem bm1_rfind : method .rfind (.d (.str s)) [.d (.str t)] S = .ok (.d (.int (Txt.rfind (mk s) (mk t)))) S := (rfl)
@[simp] theorem bm1_startswith : method .startswith (.d (.str s)) [.d (.str t)] S = .ok (.d (.bl (Txt.startswith (mk s) (mk t)))) S := (rfl)
@[simp] theorem bmTy_append : bmTy .append v S = (listOf v S).isSome := (rfl)
@[simp] theorem bmTy_extend : bmTy .extend v S = (listOf v S).isSome := (rfl)
@[simp] theorem bmTy_pop : bmTy .pop v S = (listOf v S).isSome := (rfl)
@[simp] theorem bmTy_join : bmTy .join v S = isStr v := (rfl)
@[simp] theorem bmTy_count : bmTy .count v S = isStr v := (rfl)
@[simp] theorem bmTy_rfind : bmTy .rfind v S = isStr v := (rfl)
@[simp] theorem bmTy_startswith : bmTy .startswith v S = isStr v := (rfl)
@[simp] theorem isStr_d : isStr (.d (.str s)) = true := (rfl)
end
section
variable {i j : Int} {s t : Tx} {b c : Bool} {x y : D} {xs ys : List D} {S : Sto} {n : Nat} {v w : Vl}
theorem wk_rng (h1 : (-4611686018427387904 : Int) ≤ i) (h2 : i < 4611686018427387904) : walkF .range [.d (.int i)] S = .ok ((List.range i.toNat).map fun (j : Nat) => .d (.int (j : Int)), none) S := by
  have e : (decide (-(2 ^ 62) ≤ i) && decide (i < 2 ^ 62)) = true := by
    rw [Bool.and_eq_true]
    exact ⟨decide_eq_true (by omega), decide_eq_true (by omega)⟩
  show (match (if (decide (-(2 ^ 62) ≤ i) && decide (i < 2 ^ 62)) = true then some ((List.range i.toNat).map fun (j : Nat) => Vl.d (.int (j : Int)), (none : Option (Nat × Cell))) else none) with
    | some q => Res.ok q S
    | none => .bad) = _
  rw [if_pos e]
theorem wk_rngN (h2 : n < 4611686018427387904) : walkF .range [.d (.int (n : Int))] S = .ok ((List.range n).map fun (j : Nat) => .d (.int (j : Int)), none) S := by
  rw [wk_rng (by omega) (by omega), Int.toNat_natCast]
theorem wk_rng2 (h1 : (-4611686018427387904 : Int) ≤ i) (h2 : i < 4611686018427387904) (h3 : (-4611686018427387904 : Int) ≤ j) (h4 : j < 4611686018427387904) : walkF .range [.d (.int i), .d (.int j)] S = .ok (rngs i j, none) S := by
  have e : (inRng i && inRng j) = true := by
    unfold inRng
    rw [Bool.and_eq_true, Bool.and_eq_true, Bool.and_eq_true]
    exact ⟨⟨decide_eq_true (by omega), decide_eq_true (by omega)⟩, decide_eq_true (by omega), decide_eq_true (by omega)⟩
  show (match ((if (inRng i && inRng j) = true then some (rngs i j) else none).map fun xs => (xs, (none : Option (Nat × Cell)))) with
    | some q => Res.ok q S
    | none => .bad) = _
  rw [if_pos e]
  rfl
@[simp] theorem wk_lst : walkF .seq [.d (.lst xs)] S = .ok (xs.map .d, none) S := (rfl)
@[simp] theorem wk_tup : walkF .seq [.d (.tup xs)] S = .ok (xs.map .d, none) S := (rfl)
@[simp] theorem wk_str : walkF .seq [.d (.str s)] S = .ok (s.map fun c => .d (.str [c]), none) S := (rfl)
@[simp] theorem wk_scr {ns : List Int} : walkF .seq [.d (.scr ns)] S = .ok (ns.map fun i => .d (.int i), none) S := (rfl)
theorem wk_cell {vs : List Vl} (h : S[n]? = some (.lst vs)) : walkF .seq [.p n] S = .ok (vs, some (n, .lst vs)) S := by
  simp [walkF, walked, seqOf, lockOf, h]
@[simp] theorem wk_enum : walkF .enum [.d (.lst xs)] S = .ok (((List.range xs.length).zip xs).map fun p => .d (.tup [.int (p.1 : Int), p.2]), none) S := by
  simp [walkF, walked, lockOf]
@[simp] theorem wk_rev : walkF .rev [.d (.lst xs)] S = .ok ((xs.map .d).reverse, none) S := (rfl)
end
section
variable {i j : Int} {s t : Tx} {b c : Bool} {x y : D} {xs ys : List D} {S : Sto} {n m : Nat} {v w : Vl} {vs : List Vl} {ρ : Env} {ts : List Tg} {t : Tg}
@[simp] theorem most_x : most = 16777216 := (rfl)
@[simp] theorem newList_f : newList false vs S = if decide (vs.length ≤ most) then (match pures vs with
  | some ds => .ok (.d (.lst ds)) S
  | none => .bad) else .bad := (rfl)
@[simp] theorem newList_t : newList true vs S = if decide (vs.length ≤ most) then .ok (.p S.length) (S ++ [.lst vs]) else .bad := (rfl)
@[simp] theorem bindT_var : bindT (.var n) v ρ = some (ρ.set n (some v)) := by simp only [bindT]
@[simp] theorem bindT_tup : bindT (.tup ts) (.d (.tup xs)) ρ = bindTs ts xs ρ := by simp only [bindT]
@[simp] theorem bindTs_nil : bindTs [] [] ρ = some ρ := by simp only [bindTs]
def bindNx (ts : List Tg) (xs : List D) : Option Env → Option Env
  | some ρ' => bindTs ts xs ρ'
  | none => none
@[simp] theorem bindNx_s : bindNx ts xs (some ρ) = bindTs ts xs ρ := (rfl)
@[simp] theorem bindTs_cons : bindTs (t :: ts) (x :: xs) ρ = bindNx ts xs (bindT t (.d x) ρ) := by
  simp only [bindTs]
  cases bindT t (.d x) ρ <;> rfl
@[simp] theorem isFlat_non : isFlat .non = true := (rfl)
@[simp] theorem isFlat_bl : isFlat (.bl b) = true := (rfl)
@[simp] theorem isFlat_int : isFlat (.int i) = true := (rfl)
@[simp] theorem isFlat_str : isFlat (.str s) = true := (rfl)
@[simp] theorem isFlat_tup : isFlat (.tup xs) = false := (rfl)
@[simp] theorem isFlat_lst : isFlat (.lst xs) = false := (rfl)
@[simp] theorem eqOk_a : eqOk x y = ((isFlat x && isFlat y) || (isData 64 x && isData 64 y)) := (rfl)
@[simp] theorem isData_non : isData n .non = true := by unfold isData; rfl
@[simp] theorem isData_bl : isData n (.bl b) = true := by unfold isData; rfl
@[simp] theorem isData_int : isData n (.int i) = true := by unfold isData; rfl
@[simp] theorem isData_str : isData n (.str s) = s.all fun c => decide (c < 1114112) := by unfold isData; rfl
theorem isData_tup : isData (n + 1) (.tup xs) = isDatas n xs := by rw [isData]
theorem isData_lst : isData (n + 1) (.lst xs) = isDatas n xs := by rw [isData]
@[simp] theorem isDatas_nil : isDatas n [] = true := by unfold isDatas; rfl
@[simp] theorem isDatas_cons : isDatas n (x :: xs) = (isData n x && isDatas n xs) := by rw [isDatas]
def ixOf (S : Sto) : Option D → Res Vl
  | some y => .ok (.d y) S
  | none => .bad
@[simp] theorem ixOf_s : ixOf S (some x) = .ok (.d x) S := (rfl)
@[simp] theorem index_lst : index (.d (.lst xs)) (.d (.int i)) S = ixOf S (atI xs i) := by
  show (match atI xs i with
    | some y => Res.ok (Vl.d y) S
    | none => .bad) = _
  cases atI xs i <;> rfl
@[simp] theorem index_tup : index (.d (.tup xs)) (.d (.int i)) S = ixOf S (atI xs i) := by
  show (match atI xs i with
    | some y => Res.ok (Vl.d y) S
    | none => .bad) = _
  cases atI xs i <;> rfl
@[simp] theorem index_str : index (.d (.str s)) (.d (.int i)) S = if decide (s.length ≤ most) then ixOf S ((atI s i).map fun c => .str [c]) else .bad := by
  show (if decide (s.length ≤ most) then (match atI s i with
    | some c => Res.ok (Vl.d (.str [c])) S
    | none => .bad) else .bad) = _
  cases atI s i <;> rfl
def ixCell (S : Sto) : Option Vl → Res Vl
  | some y => .ok y S
  | none => .bad
@[simp] theorem ixCell_s : ixCell S (some v) = .ok v S := (rfl)
@[simp] theorem index_p : index (.p n) (.d x) S = match S[n]? with
    | some (.lst xs) => match x with
      | .int i => ixCell S (atI xs i)
      | _ => .bad
    | some (.dct kvs) => ixCell S (kvFind kvs x)
    | _ => .bad := by
  show (match S[n]? with
    | some (.lst xs) => match x with
      | .int i => match atI xs i with
        | some y => Res.ok y S
        | none => .bad
      | _ => .bad
    | some (.dct kvs) => match kvFind kvs x with
      | some y => Res.ok y S
      | none => .bad
    | _ => .bad) = _
  cases S[n]? with
  | none => rfl
  | some c =>
    cases c with
    | lst us =>
      cases x with
      | int i =>
        show (match atI us i with
          | some y => Res.ok y S
          | none => .bad) = ixCell S (atI us i)
        cases atI us i <;> rfl
      | _ => rfl
    | dct kvs =>
      show (match kvFind kvs x with
          | some y => Res.ok y S
          | none => .bad) = ixCell S (kvFind kvs x)
      cases kvFind kvs x <;> rfl
    | _ => rfl
@[simp] theorem atI_a {α : Type} {us : List α} : atI us i = (L2.ixN us.length i).bind fun j => us[j]? := (rfl)
@[simp] theorem ixN_a : L2.ixN n i = if 0 ≤ i then (if i < n then some i.toNat else none) else if -(n : Int) ≤ i then some (i + n).toNat else none := (rfl)
end
end Z
end

section
set_option maxHeartbeats 1000000
set_option maxRecDepth 10000
/-! Z20: what the laws' own helpers do. -/
namespace Z
open PySem L2
def drawB : List Z.St := [.ret (.lst true [.bf (.list) false [.var 0], .con (.int 0), .con (.int 0), .con (.int 17)])]
def nextB : List Z.St := [.ifs (.cmp (.gt) (.ix (.var 0) (.con (.int 2))) (.con (.int 0))) [.asg (.var 2) (.op (.mod) (.bf (.int) false [.ix (.var 0) (.con (.int 2))]) (.var 1)), .sub (.var 0) (.con (.int 2)) (.op (.fdiv) (.ix (.var 0) (.con (.int 2))) (.var 1)), .ret (.var 2)] [], .ifs (.cmp (.lt) (.ix (.var 0) (.con (.int 1))) (.bf (.len) false [.ix (.var 0) (.con (.int 0))])) [.asg (.var 3) (.bf (.abs) false [.ix (.ix (.var 0) (.con (.int 0))) (.ix (.var 0) (.con (.int 1)))]), .sub (.var 0) (.con (.int 1)) (.op (.add) (.ix (.var 0) (.con (.int 1))) (.con (.int 1))), .ifs (.cmp (.ge) (.var 3) (.op (.pow) (.con (.int 10)) (.con (.int 18)))) [.sub (.var 0) (.con (.int 2)) (.op (.fdiv) (.var 3) (.var 1)), .ret (.op (.mod) (.bf (.int) false [.var 3]) (.var 1))] [], .sub (.var 0) (.con (.int 3)) (.op (.mod) (.bf (.int) false [.op (.add) (.op (.add) (.op (.mul) (.ix (.var 0) (.con (.int 3))) (.con (.int 48271))) (.var 3)) (.con (.int 11))]) (.con (.int 2147483647)))] [.sub (.var 0) (.con (.int 3)) (.op (.mod) (.bf (.int) false [.op (.add) (.op (.mul) (.ix (.var 0) (.con (.int 3))) (.con (.int 48271))) (.con (.int 12345))]) (.con (.int 2147483647)))], .ret (.op (.mod) (.op (.fdiv) (.bf (.int) false [.op (.mod) (.op (.mul) (.ix (.var 0) (.con (.int 3))) (.con (.int 69621))) (.con (.int 2147483629))]) (.con (.int 7))) (.var 1))]
def sameB (f : Nat) : List Z.St := [.ifs (.bf (.isinst [2, 3]) false [.var 1]) [.ifs (.or (.cmp (.ne) (.bf (.isinst [2]) false [.var 1]) (.bf (.isinst [2]) false [.var 0])) (.cmp (.ne) (.bf (.isinst [3]) false [.var 1]) (.bf (.isinst [3]) false [.var 0]))) [.ret (.con (.bl false))] [], .ifs (.cmp (.ne) (.bf (.len) false [.var 0]) (.bf (.len) false [.var 1])) [.ret (.con (.bl false))] [], .ret (.bf (.all) false [.lc false (.call f [.ix (.var 0) (.var 2), .ix (.var 1) (.var 2)]) (.var 2) [2] (.range) [.bf (.len) false [.var 1]] none])] [], .ifs (.cmp (.is) (.var 1) (.con (.non))) [.ret (.cmp (.is) (.var 0) (.con (.non)))] [], .ifs (.cmp (.ne) (.bf (.isinst [4]) false [.var 1]) (.bf (.isinst [4]) false [.var 0])) [.ret (.con (.bl false))] [], .ifs (.bf (.isinst [1]) false [.var 1]) [.ret (.and (.bf (.isinst [1]) false [.var 0]) (.cmp (.eq) (.var 0) (.var 1)))] [], .ret (.and (.bf (.isinst [0]) false [.var 0]) (.cmp (.eq) (.var 0) (.var 1)))]
def drawD : Df := { slots := 1, params := 1, body := drawB, keep := true }
def nextD : Df := { slots := 4, params := 2, body := nextB, keep := true }
def sameD (f : Nat) : Df := { slots := 3, params := 2, body := sameB f, keep := false, alone := true }
/-- what the cell of a draw holds -/
def DrawC (c : Cell) : Prop := ∃ (xs : List Int) (p r s : Int), c = .lst [.d (.lst (xs.map .int)), .d (.int p), .d (.int r), .d (.int s)] ∧ 0 ≤ p
theorem draw_run {G : Gm} {k f : Nat} (h : G.defs f = some drawD) (ns : List Int) (hl : ns.length ≤ 16777216) (S : Sto) : ∃ c, run G (k + 1) f [.d (.scr ns)] S = .ok (.p S.length) (S ++ [c]) ∧ DrawC c := by
  refine ⟨.lst [.d (.lst (ns.map .int)), .d (.int 0), .d (.int 0), .d (.int 17)], ?_, ns, 0, 0, 17, rfl, by decide⟩
  rw [run_keep h rfl rfl]
  simp [drawD, drawB, bList, seqOf, hl]
theorem next_run {G : Gm} {k f : Nat} (h : G.defs f = some nextD) {m : Int} (h0 : 0 < m) (h1 : m < 1073741824) {S : Sto} {n : Nat} {c : Cell} (hc : S[n]? = some c) (hd : DrawC c) :
    ∃ v c', run G (k + 1) f [.p n, .d (.int m)] S = .ok (.d (.int v)) (S.set n c') ∧ DrawC c' ∧ 0 ≤ v ∧ v < m := by
  obtain ⟨xs, p, r, s, rfl, hp⟩ := hd
  have hn : n < S.length := (List.getElem?_eq_some_iff.mp hc).1
  have hset : ∀ c : Cell, (S.set n c)[n]? = some c := fun c => by rw [List.getElem?_set_self hn]
  rw [run_keep h rfl rfl]
  have fin : ∀ (v : Int) (c' : Cell), DrawC c' → outK nextD.keep S (exs G (run G k) nextD.body ([Vl.p n, .d (.int m)].map some ++ List.replicate (nextD.slots - nextD.params) none) S) = .ok (.d (.int (v % m))) (S.set n c') →
      ∃ v c', outK nextD.keep S (exs G (run G k) nextD.body ([Vl.p n, .d (.int m)].map some ++ List.replicate (nextD.slots - nextD.params) none) S) = .ok (.d (.int v)) (S.set n c') ∧ DrawC c' ∧ 0 ≤ v ∧ v < m :=
    fun v c' d e => ⟨_, c', e, d, Int.emod_nonneg _ (by omega), Int.emod_lt_of_pos _ h0⟩
  by_cases hr : 0 < r
  · refine fin r (.lst [.d (.lst (xs.map .int)), .d (.int p), .d (.int (r / m)), .d (.int s)]) ⟨xs, p, r / m, s, rfl, hp⟩ ?_
    simp [nextD, nextB, hc, atI, hr, h0, h1, setItem]
  · by_cases hq : p < xs.length
    · have hx : p.toNat < xs.length := by omega
      by_cases hb : 1000000000000000000 ≤ (if xs[p.toNat] < 0 then -xs[p.toNat] else xs[p.toNat])
      · refine fin (if xs[p.toNat] < 0 then -xs[p.toNat] else xs[p.toNat]) (.lst [.d (.lst (xs.map .int)), .d (.int (p + 1)), .d (.int ((if xs[p.toNat] < 0 then -xs[p.toNat] else xs[p.toNat]) / m)), .d (.int s)]) ⟨xs, p + 1, _, s, rfl, by omega⟩ ?_
        simp [nextD, nextB, hc, atI, hp, hx, hr, hq, h0, h1, setItem, hset, cPow, hb]
      · refine fin (((s * 48271 + (if xs[p.toNat] < 0 then -xs[p.toNat] else xs[p.toNat]) + 11) % 2147483647) * 69621 % 2147483629 / 7) (.lst [.d (.lst (xs.map .int)), .d (.int (p + 1)), .d (.int r), .d (.int ((s * 48271 + (if xs[p.toNat] < 0 then -xs[p.toNat] else xs[p.toNat]) + 11) % 2147483647))]) ⟨xs, p + 1, r, _, rfl, by omega⟩ ?_
        simp [nextD, nextB, hc, atI, hp, hx, hr, hq, h0, h1, setItem, hset, cMul, cPow, hb]
    · refine fin (((s * 48271 + 12345) % 2147483647) * 69621 % 2147483629 / 7) (.lst [.d (.lst (xs.map .int)), .d (.int p), .d (.int r), .d (.int ((s * 48271 + 12345) % 2147483647))]) ⟨xs, p, r, _, rfl, by omega⟩ ?_
      simp [nextD, nextB, hc, atI, hr, hq, h0, h1, setItem, hset, cMul, cPow]
/-! ### _law_same -/
mutual
theorem beq_refl : ∀ x : D, D.beq x x = true
  | .non => rfl
  | .bl a => by simp [D.beq]
  | .int a => by simp [D.beq]
  | .str a => by simp [D.beq]
  | .fn a => by simp [D.beq]
  | .tup a => by simp [D.beq, beqs_refl a]
  | .lst a => by simp [D.beq, beqs_refl a]
  | .scr a => by simp [D.beq]
  | .dct a b => by simp [D.beq, beqs_refl a, beqs_refl b]
  | .ins c n a => by simp [D.beq, beqs_refl a]
theorem beqs_refl : ∀ x : List D, D.beqs x x = true
  | [] => rfl
  | x :: xs => by simp [D.beqs, beq_refl x, beqs_refl xs]
end
@[simp] theorem eqv_refl (x : D) : eqv x x = true := beq_refl _
mutual
/-- plain data that a law compares: no deeper than n, no list too long -/
def okS : Nat → D → Bool
  | _, .non => true
  | _, .bl _ => true
  | _, .int _ => true
  | _, .str _ => true
  | n, .tup xs => decide (xs.length ≤ 16777216) && (match n with | 0 => false | n + 1 => okSs n xs)
  | n, .lst xs => decide (xs.length ≤ 16777216) && (match n with | 0 => false | n + 1 => okSs n xs)
  | _, _ => false
def okSs : Nat → List D → Bool
  | _, [] => true
  | n, x :: xs => okS n x && okSs n xs
end
theorem okSs_all {n : Nat} : ∀ {xs : List D}, okSs n xs = true → ∀ x ∈ xs, okS n x = true
  | [], _, _, h => nomatch h
  | y :: ys, h, x, hx => by
    simp only [okSs, Bool.and_eq_true] at h
    rcases List.mem_cons.mp hx with rfl | hx
    · exact h.1
    · exact okSs_all h.2 x hx
theorem okSs_of {n : Nat} : ∀ {xs : List D}, (∀ x ∈ xs, okS n x = true) → okSs n xs = true
  | [], _ => rfl
  | y :: ys, h => by
    simp only [okSs, Bool.and_eq_true]
    exact ⟨h y (List.mem_cons_self ..), okSs_of fun x hx => h x (List.mem_cons_of_mem _ hx)⟩
/-- a comprehension whose turns leave the cells alone -/
theorem turns_map {f : Env → Sto → Res (Option Vl)} {t : Tg} {ρ : Env} {S : Sto} (g : Vl → Vl) : ∀ {xs acc : List Vl}, (∀ v ∈ xs, ∃ ρ', bindT t v ρ = some ρ' ∧ f ρ' S = .ok (some (g v)) S) → acc.length + xs.length ≤ 16777216 → turns f t ρ xs acc S = .ok (acc ++ xs.map g) S
  | [], acc, _, _ => by simp [turns]
  | v :: xs, acc, h, hl => by
    obtain ⟨ρ', h1, h2⟩ := h v (List.mem_cons_self ..)
    have hl' : acc.length + 1 + xs.length ≤ 16777216 := by simp only [List.length_cons] at hl; omega
    have : acc.length < 16777216 := by omega
    simp only [turns, h1, h2, most, this, decide_true, if_true]
    rw [turns_map g (acc := acc ++ [g v]) (fun w hw => h w (List.mem_cons_of_mem _ hw)) (by simp; omega)]
    simp
/-- over a range -/
theorem turns_rng {f : Env → Sto → Res (Option Vl)} {i : Nat} {ρ : Env} {S : Sto} {n : Nat} (g : Nat → Vl) (hn : n ≤ 16777216) (h : ∀ j, j < n → f (ρ.set i (some (.d (.int (j : Int))))) S = .ok (some (g j)) S) :
    turns f (.var i) ρ ((List.range n).map fun (j : Nat) => .d (.int (j : Int))) [] S = .ok ((List.range n).map g) S := by
  rw [turns_map (fun v => match v with | .d (.int j) => g j.toNat | v => v) (fun v hv => ?_) (by simpa using hn)]
  · simp
  · obtain ⟨j, hj, rfl⟩ := List.mem_map.mp hv
    exact ⟨_, rfl, by simpa using h j (List.mem_range.mp hj)⟩
@[simp] theorem intL_map {τ : Type} (f : τ → Int) (xs : List τ) : intL (xs.map fun x => .int (f x)) = some (xs.map f) := by
  induction xs with
  | nil => rfl
  | cons a ns ih => simp [intL, ih]
@[simp] theorem boolL_map {τ : Type} (f : τ → Bool) (xs : List τ) : boolL (xs.map fun x => .bl (f x)) = some (xs.map f) := by
  induction xs with
  | nil => rfl
  | cons a ns ih => simp [boolL, ih]
@[simp] theorem textL_map {τ : Type} (f : τ → Tx) (xs : List τ) : textL (xs.map fun x => .str (f x)) = some (xs.map f) := by
  induction xs with
  | nil => rfl
  | cons a ns ih => simp [textL, ih]
theorem same0 {G : Gm} {f : Nat} (h : G.defs f = some (sameD f)) (d : D) (hd : okS 0 d = true) (k : Nat) (S : Sto) : run G (k + 1) f [.d d, .d d] S = .ok (.d (.bl true)) S := by
    rw [run_alone h rfl rfl rfl]
    cases d <;> simp [okS] at hd <;> simp [sameD, sameB]
theorem same1 {G : Gm} {f : Nat} (h : G.defs f = some (sameD f)) (xs : List D) (hl : xs.length ≤ 16777216) (k : Nat) (S : Sto) (call : ∀ (i : Nat) (hi : i < xs.length), run G (k + 1) f [.d xs[i], .d xs[i]] [] = .ok (.d (.bl true)) []) : run G (k + 2) f [.d (.lst xs), .d (.lst xs)] S = .ok (.d (.bl true)) S := by
  rw [run_alone h rfl rfl rfl]
  simp [sameD, sameB, wk_rngN (n := xs.length) (by omega)]
  rw [turns_rng (n := xs.length) (fun _ => .d (.bl true)) hl fun j hj => by simp [hj, call]]
  simp [hl]
theorem same2 {G : Gm} {f : Nat} (h : G.defs f = some (sameD f)) (xs : List D) (hl : xs.length ≤ 16777216) (k : Nat) (S : Sto) (call : ∀ (i : Nat) (hi : i < xs.length), run G (k + 1) f [.d xs[i], .d xs[i]] [] = .ok (.d (.bl true)) []) : run G (k + 2) f [.d (.tup xs), .d (.tup xs)] S = .ok (.d (.bl true)) S := by
  rw [run_alone h rfl rfl rfl]
  simp [sameD, sameB, wk_rngN (n := xs.length) (by omega)]
  rw [turns_rng (n := xs.length) (fun _ => .d (.bl true)) hl fun j hj => by simp [hj, call]]
  simp [hl]
theorem same_run {G : Gm} {f : Nat} (h : G.defs f = some (sameD f)) : ∀ (n : Nat) (d : D), okS n d = true → ∀ k, n ≤ k → ∀ S, run G (k + 1) f [.d d, .d d] S = .ok (.d (.bl true)) S := by
  intro n
  induction n with
  | zero => exact fun d hd k _ S => same0 h d hd k S
  | succ n ih =>
    intro d hd k hk S
    cases k with
    | zero => omega
    | succ k =>
      cases d with
      | tup xs =>
        simp only [okS, Bool.and_eq_true, decide_eq_true_eq] at hd
        exact same2 h xs hd.1 k S fun i hi => ih _ (okSs_all hd.2 _ (List.getElem_mem hi)) k (by omega) []
      | lst xs =>
        simp only [okS, Bool.and_eq_true, decide_eq_true_eq] at hd
        exact same1 h xs hd.1 k S fun i hi => ih _ (okSs_all hd.2 _ (List.getElem_mem hi)) k (by omega) []
      | _ => exact ih _ (by simpa [okS] using hd) (k + 1) (by omega) S
end Z
end

section
set_option maxHeartbeats 1000000
set_option maxRecDepth 10000
/-! Z21: texts. -/
namespace Z
open PySem L2
def joinTx (sep : Tx) : List Tx → Tx
  | [] => []
  | [x] => x
  | x :: y :: r => x ++ sep ++ joinTx sep (y :: r)
theorem un_join (sep : Tx) : ∀ ts : List Tx, un (Txt.join (mk sep) (ts.map mk)) = joinTx sep ts := by
  intro ts
  show un (Builtin.Str.glued (mk sep) (ts.map mk)) = _
  rw [StrLaws.glued_eq_join]
  induction ts with
  | nil => rfl
  | cons x r ih =>
    cases r with
    | nil => simp [un, mk, PySem.Str.join, joinTx]
    | cons y r =>
      show (mk x ++ mk sep ++ PySem.Str.join (mk sep) ((y :: r).map mk)).cps.toList = x ++ sep ++ joinTx sep (y :: r)
      rw [← ih]
      simp [Str.cps_append, mk, un]
theorem joinTx_nil : ∀ ts : List Tx, joinTx [] ts = ts.flatten
  | [] => rfl
  | [x] => by simp [joinTx]
  | x :: y :: r => by simp [joinTx, joinTx_nil (y :: r)]
theorem mk_len (s : Tx) : (mk s).length = s.length := rfl
theorem mk_cps (s : Tx) : (mk s).cps.toList = s := rfl
theorem sub_one (s : Tx) (c i : Nat) : Builtin.Str.subAt (mk s) (mk [c]) i = true ↔ s[i]? = some c := by
  rw [StrLaws.subAt_eq]
  exact StrLaws.take1_drop
/-- how often a character stands in a text -/
theorem count_one (s : Tx) (c : Nat) : Txt.count (mk s) (mk [c]) = (s.count c : Int) := by
  show ((Builtin.Str.occurrences (mk s) (mk [c]) 0 (mk s).length ((mk s).length + 1)).length : Int) = _
  rw [StrLaws.occ_eq]
  have key : ∀ (n a : Nat) (st : Array Nat × Nat), st.1.size ≤ a → st.2 ≤ a → a + n = s.length + 1 →
      (forIn (m := Id) (List.range' a n) st (StrLaws.occBody (mk s) (mk [c]) (mk s).length ((mk s).length + 1))).run.1.size = st.1.size + (s.drop a).count c := by
    intro n
    induction n with
    | zero =>
      intro a st h1 h2 h3
      simp [List.drop_eq_nil_of_le (show s.length ≤ a by omega)]
    | succ n ih =>
      intro a st h1 h2 h3
      rw [List.range'_succ, List.forIn_cons]
      by_cases hs : s[a]? = some c
      · have hl : a < s.length := (List.getElem?_eq_some_iff.mp hs).1
        have hc : ((st.fst.size < (mk s).length + 1 ∧ st.snd ≤ a) ∧ a + (mk [c]).length ≤ (mk s).length) ∧ Builtin.Str.subAt (mk s) (mk [c]) a = true := ⟨⟨⟨by rw [mk_len]; omega, h2⟩, by rw [mk_len, mk_len]; simp; omega⟩, (sub_one s c a).mpr hs⟩
        have e : StrLaws.occBody (mk s) (mk [c]) (mk s).length ((mk s).length + 1) a st = pure (ForInStep.yield (st.fst.push a, a + (mk [c]).length)) := by unfold StrLaws.occBody; rw [if_pos hc]
        rw [e]
        simp only [pure_bind]
        rw [ih (a + 1) _ (by simp; omega) (by rw [mk_len]; simp) (by omega)]
        rw [List.drop_eq_getElem_cons hl]
        have : s[a] = c := by rw [List.getElem?_eq_getElem hl] at hs; exact Option.some.inj hs
        simp [this]
        omega
      · have e : StrLaws.occBody (mk s) (mk [c]) (mk s).length ((mk s).length + 1) a st = pure (ForInStep.yield (st.fst, st.snd)) := by
          unfold StrLaws.occBody; rw [if_neg fun h => hs ((sub_one s c a).mp h.2)]
        rw [e]
        simp only [pure_bind]
        rw [ih (a + 1) _ (by simp; omega) (by simp; omega) (by omega)]
        by_cases hl : a < s.length
        · rw [List.drop_eq_getElem_cons hl]
          have : s[a] ≠ c := fun h => hs (by rw [List.getElem?_eq_getElem hl, h])
          rw [List.count_cons_of_ne this]
        · rw [List.drop_eq_nil_of_le (by omega), List.drop_eq_nil_of_le (by omega)]
  have := key (s.length + 1) 0 (#[], 0) (Nat.le_refl _) (Nat.le_refl _) (by omega)
  rw [mk_len] at this ⊢
  simp only [Array.length_toList, Nat.sub_zero]
  rw [this]
  simp
/-- where a character stands last -/
def lastIx (s : Tx) (c : Nat) : Option Nat := (List.range s.length).foldl (fun l i => if s[i]? = some c then some i else l) none
theorem forIn_fold {β : Type} (f : Nat → β → β) (g : Nat → β → Id (ForInStep β)) (h : ∀ i b, g i b = pure (ForInStep.yield (f i b))) : ∀ (l : List Nat) (b : β), (forIn (m := Id) l b g).run = l.foldl (fun b i => f i b) b
  | [], b => rfl
  | i :: l, b => by
    rw [List.forIn_cons, h, List.foldl_cons]
    exact forIn_fold f g h l (f i b)
theorem foldl_ext {β : Type} {f g : β → Nat → β} : ∀ (l : List Nat) (b : β), (∀ i ∈ l, ∀ b, f b i = g b i) → l.foldl f b = l.foldl g b
  | [], b, _ => rfl
  | i :: l, b, h => by
    rw [List.foldl_cons, List.foldl_cons, h i (List.mem_cons_self ..)]
    exact foldl_ext l _ fun j hj => h j (List.mem_cons_of_mem _ hj)
theorem last_one (s : Tx) (c : Nat) : Builtin.Str.lastOccurrence (mk s) (mk [c]) 0 (mk s).length = lastIx s c := by
  have e : Builtin.Str.lastOccurrence (mk s) (mk [c]) 0 (mk s).length = (List.range (s.length + 1)).foldl (fun l i => if (i + 1 ≤ s.length ∧ s[i]? = some c) then some i else l) none := by
    unfold Builtin.Str.lastOccurrence
    simp [List.range_eq_range', mk_len, sub_one]
    exact forIn_fold (fun i l => if i + 1 ≤ List.length s ∧ s[i]? = some c then some i else l) _ (fun i b => by split <;> rfl) _ _
  rw [e, List.range_succ, List.foldl_append]
  unfold lastIx
  simp
  exact foldl_ext _ _ fun i hi b => by
    have : i + 1 ≤ s.length := by have := List.mem_range.mp hi; omega
    simp [this]
theorem rfind_one (s : Tx) (c : Nat) : Txt.rfind (mk s) (mk [c]) = match lastIx s c with | some i => (i : Int) | none => -1 := by
  show (match Builtin.Str.lastOccurrence (mk s) (mk [c]) 0 (mk s).length with | some i => (i : Int) | none => -1) = _
  rw [last_one]
@[simp] theorem rfind_nil (c : Nat) : Txt.rfind (mk []) (mk [c]) = -1 := by
  rw [rfind_one]; rfl
theorem rfind_snoc (s : Tx) (d c : Nat) : Txt.rfind (mk (s ++ [d])) (mk [c]) = if d = c then (s.length : Int) else Txt.rfind (mk s) (mk [c]) := by
  rw [rfind_one, rfind_one]
  have e : lastIx (s ++ [d]) c = if d = c then some s.length else lastIx s c := by
    unfold lastIx
    rw [List.length_append, List.length_singleton, List.range_succ, List.foldl_append]
    simp only [List.foldl_cons, List.foldl_nil]
    rw [List.getElem?_append_right (Nat.le_refl _)]
    simp only [Nat.sub_self, List.getElem?_cons_zero, Option.some.injEq]
    split
    · rfl
    · exact foldl_ext _ _ fun i hi b => by rw [List.getElem?_append_left (List.mem_range.mp hi)]
  rw [e]
  by_cases h : d = c
  · rw [if_pos h, if_pos h]
  · rw [if_neg h, if_neg h]
end Z
end

section
set_option maxHeartbeats 1000000
set_option maxRecDepth 10000
/-! Z22: loops. -/
namespace Z
open PySem L2
/-- a comprehension that may change the cells: what stays true of them, and of each item made -/
theorem turns_inv {f : Env → Sto → Res (Option Vl)} {t : Tg} {ρ : Env} (I : Sto → Prop) (P : Vl → Prop) : ∀ {xs acc : List Vl} {S : Sto}, (∀ v ∈ xs, ∀ S, I S → ∃ ρ' y S', bindT t v ρ = some ρ' ∧ f ρ' S = .ok (some y) S' ∧ I S' ∧ P y) → I S → acc.length + xs.length ≤ 16777216 →
    ∃ ys S', turns f t ρ xs acc S = .ok (acc ++ ys) S' ∧ I S' ∧ ys.length = xs.length ∧ ∀ y ∈ ys, P y
  | [], acc, S, _, hI, _ => ⟨[], S, by simp [turns], hI, rfl, fun _ h => nomatch h⟩
  | v :: xs, acc, S, h, hI, hl => by
    obtain ⟨ρ', y, S1, h1, h2, h3, h4⟩ := h v (List.mem_cons_self ..) S hI
    have hl' : acc.length + 1 + xs.length ≤ 16777216 := by simp only [List.length_cons] at hl; omega
    have hz : acc.length < 16777216 := by omega
    obtain ⟨ys, S', e, i, l, p⟩ := turns_inv I P (xs := xs) (acc := acc ++ [y]) (S := S1) (fun w hw => h w (List.mem_cons_of_mem _ hw)) h3 (by simp; omega)
    refine ⟨y :: ys, S', ?_, i, by simp [l], fun z hz => ?_⟩
    · simp only [turns, h1, h2, most, hz, decide_true, if_true]
      rw [e]; simp
    · rcases List.mem_cons.mp hz with rfl | hz
      · exact h4
      · exact p z hz
/-- the same, for all environments of a kind at once -/
theorem turns_all {f : Env → Sto → Res (Option Vl)} {t : Tg} (R : Env → Prop) (I : Sto → Prop) (P : Vl → Prop) : ∀ {xs : List Vl} (acc : List Vl) {S : Sto}, (∀ v ∈ xs, ∀ S, I S → ∃ y S', I S' ∧ P y ∧ ∀ ρ, R ρ → ∃ ρ', bindT t v ρ = some ρ' ∧ f ρ' S = .ok (some y) S') → I S → acc.length + xs.length ≤ 16777216 →
    ∃ ys S', I S' ∧ ys.length = xs.length ∧ (∀ y ∈ ys, P y) ∧ ∀ ρ, R ρ → turns f t ρ xs acc S = .ok (acc ++ ys) S'
  | [], acc, S, _, hI, _ => ⟨[], S, hI, rfl, (fun _ h => nomatch h), fun ρ _ => by simp [turns]⟩
  | v :: xs, acc, S, h, hI, hl => by
    obtain ⟨y, S1, h3, h4, h5⟩ := h v (List.mem_cons_self ..) S hI
    have hl' : acc.length + 1 + xs.length ≤ 16777216 := by simp only [List.length_cons] at hl; omega
    have hz : acc.length < 16777216 := by omega
    obtain ⟨ys, S', i, l, p, e⟩ := turns_all R I P (xs := xs) (acc ++ [y]) (S := S1) (fun w hw => h w (List.mem_cons_of_mem _ hw)) h3 (by simp; omega)
    refine ⟨y :: ys, S', i, by simp [l], fun z hz => ?_, fun ρ hR => ?_⟩
    · rcases List.mem_cons.mp hz with rfl | hz
      · exact h4
      · exact p z hz
    · obtain ⟨ρ', h1, h2⟩ := h5 ρ hR
      simp only [turns, h1, h2, most, hz, decide_true, if_true]
      rw [e ρ hR]; simp
theorem turns_ds {f : Env → Sto → Res (Option Vl)} {i : Nat} {ρ : Env} {S : Sto} (g : D → D) : ∀ {ds : List D} (acc : List Vl), (∀ d ∈ ds, f (ρ.set i (some (.d d))) S = .ok (some (.d (g d))) S) → acc.length + ds.length ≤ 16777216 → turns f (.var i) ρ (ds.map .d) acc S = .ok (acc ++ ds.map fun d => .d (g d)) S
  | [], acc, _, _ => by simp [turns]
  | d :: ds, acc, h, hl => by
    have hl' : acc.length + 1 + ds.length ≤ 16777216 := by simp only [List.length_cons] at hl; omega
    have hz : acc.length < 16777216 := by omega
    have ih := turns_ds g (ds := ds) (acc ++ [.d (g d)]) (fun e he => h e (List.mem_cons_of_mem _ he)) (by simp; omega)
    rw [List.map_cons]
    unfold turns
    simp only [bindT_var, h d (List.mem_cons_self ..), most, hz, decide_true, if_true]
    rw [ih]
    simp
/-- texts made -/
theorem all_str {ys : List Vl} {p : Tx → Prop} : (∀ y ∈ ys, ∃ t : Tx, y = .d (.str t) ∧ p t) → ∃ ts : List Tx, ys = ts.map (fun t => .d (.str t)) ∧ ∀ t ∈ ts, p t := by
  induction ys with
  | nil => exact fun _ => ⟨[], rfl, fun _ h => nomatch h⟩
  | cons y ys ih =>
    intro h
    obtain ⟨t, e, hp⟩ := h y (List.mem_cons_self ..)
    obtain ⟨ts, e2, hp2⟩ := ih fun z hz => h z (List.mem_cons_of_mem _ hz)
    exact ⟨t :: ts, by rw [e, e2]; rfl, fun z hz => by
      rcases List.mem_cons.mp hz with rfl | hz
      · exact hp
      · exact hp2 z hz⟩
theorem all_int {ys : List Vl} {p : Int → Prop} : (∀ y ∈ ys, ∃ t : Int, y = .d (.int t) ∧ p t) → ∃ ts : List Int, ys = ts.map (fun t => .d (.int t)) ∧ ∀ t ∈ ts, p t := by
  induction ys with
  | nil => exact fun _ => ⟨[], rfl, fun _ h => nomatch h⟩
  | cons y ys ih =>
    intro h
    obtain ⟨t, e, hp⟩ := h y (List.mem_cons_self ..)
    obtain ⟨ts, e2, hp2⟩ := ih fun z hz => h z (List.mem_cons_of_mem _ hz)
    exact ⟨t :: ts, by rw [e, e2]; rfl, fun z hz => by
      rcases List.mem_cons.mp hz with rfl | hz
      · exact hp
      · exact hp2 z hz⟩
theorem all_d {ys : List Vl} {p : D → Prop} : (∀ y ∈ ys, ∃ t : D, y = .d t ∧ p t) → ∃ ts : List D, ys = ts.map .d ∧ ∀ t ∈ ts, p t := by
  induction ys with
  | nil => exact fun _ => ⟨[], rfl, fun _ h => nomatch h⟩
  | cons y ys ih =>
    intro h
    obtain ⟨t, e, hp⟩ := h y (List.mem_cons_self ..)
    obtain ⟨ts, e2, hp2⟩ := ih fun z hz => h z (List.mem_cons_of_mem _ hz)
    exact ⟨t :: ts, by rw [e, e2]; rfl, fun z hz => by
      rcases List.mem_cons.mp hz with rfl | hz
      · exact hp
      · exact hp2 z hz⟩
theorem exs_cat {G : Gm} {rc : Rc} (b : List St) : ∀ (a : List St) {ρ : Env} {S : Sto}, exs G rc (a ++ b) ρ S = (exs G rc a ρ S).seq (exs G rc b)
  | [], ρ, S => rfl
  | s :: a, ρ, S => by
    show (ex G rc s ρ S).seq (fun ρ S => exs G rc (a ++ b) ρ S) = ((ex G rc s ρ S).seq fun ρ S => exs G rc a ρ S).seq (exs G rc b)
    cases ex G rc s ρ S with
    | nx ρ' S' => exact exs_cat b a
    | _ => rfl
theorem exs_split {G : Gm} {rc : Rc} {ρ : Env} {S : Sto} (n : Nat) (b : List St) : exs G rc b ρ S = (exs G rc (b.take n) ρ S).seq (exs G rc (b.drop n)) := by
  have h := exs_cat (G := G) (rc := rc) (b.drop n) (b.take n) (ρ := ρ) (S := S)
  rw [List.take_append_drop] at h
  exact h
/-- a for, turn by turn -/
def forNx (b : Env → Sto → RS) (t : Tg) (vs : List Vl) : RS → RS
  | .nx ρ S => fors b t vs ρ S
  | .ct ρ S => fors b t vs ρ S
  | .bk ρ S => .nx ρ S
  | r => r
section
variable {b : Env → Sto → RS} {t : Tg} {v w : Vl} {vs : List Vl} {ρ : Env} {S : Sto} {i : Nat}
theorem forNx_nx : forNx b t vs (.nx ρ S) = fors b t vs ρ S := (rfl)
theorem forNx_ct : forNx b t vs (.ct ρ S) = fors b t vs ρ S := (rfl)
theorem forNx_bk : forNx b t vs (.bk ρ S) = .nx ρ S := (rfl)
theorem forNx_rt : forNx b t vs (.rt w S) = .rt w S := (rfl)
theorem fors_none : fors b t [] ρ S = .nx ρ S := (rfl)
theorem fors_var : fors b (.var i) (v :: vs) ρ S = forNx b (.var i) vs (b (ρ.set i (some v)) S) := by
  show (match b (ρ.set i (some v)) S with
    | .nx ρ S => fors b (.var i) vs ρ S
    | .ct ρ S => fors b (.var i) vs ρ S
    | .bk ρ S => .nx ρ S
    | r => r) = _
  cases b (ρ.set i (some v)) S <;> rfl
end
/-- a for that goes to its end, by what is walked so far -/
theorem fors_pre {b : Env → Sto → RS} {t : Tg} {xs : List Vl} (I : List Vl → Env → Sto → Prop)
    (h : ∀ pre v post, xs = pre ++ v :: post → ∀ ρ S, I pre ρ S → ∃ ρ1 ρ2 S2, bindT t v ρ = some ρ1 ∧ (b ρ1 S = .nx ρ2 S2 ∨ b ρ1 S = .ct ρ2 S2) ∧ I (pre ++ [v]) ρ2 S2) {ρ : Env} {S : Sto} (h0 : I [] ρ S) : ∃ ρ' S', fors b t xs ρ S = .nx ρ' S' ∧ I xs ρ' S' := by
  have key : ∀ (post pre : List Vl) (ρ : Env) (S : Sto), xs = pre ++ post → I pre ρ S → ∃ ρ' S', fors b t post ρ S = .nx ρ' S' ∧ I xs ρ' S' := by
    intro post
    induction post with
    | nil =>
      intro pre ρ S e hI
      rw [List.append_nil] at e
      subst e
      exact ⟨ρ, S, rfl, hI⟩
    | cons v post ih =>
      intro pre ρ S e hI
      obtain ⟨ρ1, ρ2, S2, h1, h2, h3⟩ := h pre v post e ρ S hI
      obtain ⟨ρ', S', h4, h5⟩ := ih (pre ++ [v]) ρ2 S2 (by rw [e]; simp) h3
      refine ⟨ρ', S', ?_, h5⟩
      unfold fors
      rw [h1]
      rcases h2 with h2 | h2 <;> (simp only [h2]; exact h4)
  exact key xs [] ρ S rfl h0
/-- a for, by what is to come; it may end early -/
theorem fors_rest {b : Env → Sto → RS} {t : Tg} (I : List Vl → Env → Sto → Prop) (R : RS → Prop)
    (h : ∀ v vs ρ S, I (v :: vs) ρ S → ∃ ρ1, bindT t v ρ = some ρ1 ∧ ((∃ ρ2 S2, (b ρ1 S = .nx ρ2 S2 ∨ b ρ1 S = .ct ρ2 S2) ∧ I vs ρ2 S2) ∨ (∃ ρ2 S2, b ρ1 S = .bk ρ2 S2 ∧ R (.nx ρ2 S2)) ∨ (∃ w S2, b ρ1 S = .rt w S2 ∧ R (.rt w S2))))
    (hn : ∀ ρ S, I [] ρ S → R (.nx ρ S)) : ∀ {xs : List Vl} {ρ : Env} {S : Sto}, I xs ρ S → R (fors b t xs ρ S)
  | [], ρ, S, hI => hn ρ S hI
  | v :: vs, ρ, S, hI => by
    obtain ⟨ρ1, h1, h2⟩ := h v vs ρ S hI
    unfold fors
    rw [h1]
    rcases h2 with ⟨ρ2, S2, h2 | h2, h3⟩ | ⟨ρ2, S2, h2, h3⟩ | ⟨w, S2, h2, h3⟩
    · simp only [h2]; exact fors_rest I R h hn h3
    · simp only [h2]; exact fors_rest I R h hn h3
    · simp only [h2]; exact h3
    · simp only [h2]; exact h3
/-- a for over a range, by the index; it may end early -/
theorem fors_range {b : Env → Sto → RS} {i n : Nat} (I : Nat → Env → Sto → Prop) (R : RS → Prop)
    (h : ∀ j ρ S, j < n → I j ρ S → ((∃ ρ2 S2, (b (ρ.set i (some (.d (.int (j : Int))))) S = .nx ρ2 S2 ∨ b (ρ.set i (some (.d (.int (j : Int))))) S = .ct ρ2 S2) ∧ I (j + 1) ρ2 S2) ∨
      (∃ ρ2 S2, b (ρ.set i (some (.d (.int (j : Int))))) S = .bk ρ2 S2 ∧ R (.nx ρ2 S2)) ∨ (∃ w S2, b (ρ.set i (some (.d (.int (j : Int))))) S = .rt w S2 ∧ R (.rt w S2))))
    (hn : ∀ ρ S, I n ρ S → R (.nx ρ S)) {ρ : Env} {S : Sto} (h0 : I 0 ρ S) : R (fors b (.var i) ((List.range n).map fun (j : Nat) => .d (.int (j : Int))) ρ S) := by
  refine fors_rest (fun xs ρ S => ∃ j, j ≤ n ∧ xs = ((List.range n).drop j).map (fun (j : Nat) => Vl.d (.int (j : Int))) ∧ I j ρ S) R (fun v vs ρ S ⟨j, hj, e, hI⟩ => ?_) (fun ρ S ⟨j, hj, e, hI⟩ => ?_) ⟨0, Nat.zero_le _, by simp, h0⟩
  · have hlt : j < n := by
      by_cases hlt : j < n
      · exact hlt
      · rw [List.drop_eq_nil_of_le (by simp; omega)] at e
        cases e
    have hl : j < (List.range n).length := by simpa using hlt
    rw [List.drop_eq_getElem_cons hl, List.map_cons] at e
    injection e with e1 e2
    rw [List.getElem_range] at e1
    subst e1
    refine ⟨_, rfl, ?_⟩
    rcases h j ρ S hlt hI with ⟨ρ2, S2, hb, hI2⟩ | h2 | h2
    · exact .inl ⟨ρ2, S2, hb, j + 1, hlt, e2, hI2⟩
    · exact .inr (.inl h2)
    · exact .inr (.inr h2)
  · have : j = n := by
      by_cases hlt : j < n
      · have hl : j < (List.range n).length := by simpa using hlt
        rw [List.drop_eq_getElem_cons hl] at e
        cases e
      · omega
    subst this
    exact hn ρ S hI
/-- a while, by a measure -/
theorem whl_rest {c : Env → Sto → Res Bool} {b : Env → Sto → RS} (I : Nat → Env → Sto → Prop) (R : RS → Prop)
    (h : ∀ m ρ S, I m ρ S → (c ρ S = .ok false S ∧ R (.nx ρ S)) ∨ (c ρ S = .ok true S ∧ ((∃ m' ρ2 S2, m' < m ∧ (b ρ S = .nx ρ2 S2 ∨ b ρ S = .ct ρ2 S2) ∧ I m' ρ2 S2) ∨ (∃ ρ2 S2, b ρ S = .bk ρ2 S2 ∧ R (.nx ρ2 S2)) ∨ (∃ w S2, b ρ S = .rt w S2 ∧ R (.rt w S2))))) :
    ∀ {n m : Nat} {ρ : Env} {S : Sto}, m < n → I m ρ S → R (whl c b n ρ S)
  | 0, m, ρ, S, hm, _ => absurd hm (Nat.not_lt_zero _)
  | n + 1, m, ρ, S, hm, hI => by
    unfold whl
    rcases h m ρ S hI with ⟨h1, h2⟩ | ⟨h1, h2⟩
    · rw [h1]; exact h2
    · rw [h1]
      simp only [thn_ok, if_true]
      rcases h2 with ⟨m', ρ2, S2, hlt, h2 | h2, h3⟩ | ⟨ρ2, S2, h2, h3⟩ | ⟨w, S2, h2, h3⟩
      · simp only [h2]; exact whl_rest I R h (by omega) h3
      · simp only [h2]; exact whl_rest I R h (by omega) h3
      · simp only [h2]; exact h3
      · simp only [h2]; exact h3
/-! ### small facts -/
@[simp] theorem pures_comp {τ : Type} (f : τ → D) (ds : List τ) : pures (ds.map (Vl.d ∘ f)) = some (ds.map f) := pures_mapf f ds
@[simp] theorem textL_str (ts : List Tx) : textL (ts.map .str) = some ts := by
  have := textL_map (fun t => t) ts
  simpa using this
@[simp] theorem intL_int (ts : List Int) : intL (ts.map .int) = some ts := by
  have := intL_map (fun t => t) ts
  simpa using this
@[simp] theorem boolL_bl (ts : List Bool) : boolL (ts.map .bl) = some ts := by
  have := boolL_map (fun t => t) ts
  simpa using this
@[simp] theorem textL_nil : textL [] = some [] := (rfl)
@[simp] theorem textL_cons (t : Tx) (ds : List D) : textL (.str t :: ds) = (textL ds).map (t :: ·) := (rfl)
@[simp] theorem intL_nil : intL [] = some [] := (rfl)
@[simp] theorem intL_cons (t : Int) (ds : List D) : intL (.int t :: ds) = (intL ds).map (t :: ·) := (rfl)
@[simp] theorem boolL_nil : boolL [] = some [] := (rfl)
@[simp] theorem boolL_cons (t : Bool) (ds : List D) : boolL (.bl t :: ds) = (boolL ds).map (t :: ·) := (rfl)
theorem join_lst {sep : Tx} {ts : List Tx} {ds : List D} {S : Sto} (h : textL ds = some ts) (hl : (ts.map List.length).sum + ts.length * sep.length ≤ 16777216) : mJoin (.d (.str sep)) (.d (.lst ds)) S = .ok (.d (.str (joinTx sep ts))) S := by
  simp [mJoin, h, hl, un_join]
@[simp] theorem join_map {sep : Tx} {ts : List Tx} {S : Sto} (hl : (ts.map List.length).sum + ts.length * sep.length ≤ 16777216) : mJoin (.d (.str sep)) (.d (.lst (ts.map .str))) S = .ok (.d (.str (joinTx sep ts))) S := join_lst (textL_str ts) hl

@[simp] theorem eqv_int (i j : Int) : eqv (.int i) (.int j) = decide (i = j) := (rfl)
@[simp] theorem eqv_str (i j : Tx) : eqv (.str i) (.str j) = decide (i = j) := (rfl)
@[simp] theorem eqv_bl (i j : Bool) : eqv (.bl i) (.bl j) = decide (i = j) := by cases i <;> cases j <;> rfl
@[simp] theorem eqv_non_int (j : Int) : eqv .non (.int j) = false := (rfl)
@[simp] theorem eqv_int_non (j : Int) : eqv (.int j) .non = false := (rfl)
@[simp] theorem eqv_str_int (i : Tx) (j : Int) : eqv (.str i) (.int j) = false := (rfl)
@[simp] theorem eqv_int_str (i : Int) (j : Tx) : eqv (.int i) (.str j) = false := (rfl)
@[simp] theorem eqv_str_non (i : Tx) : eqv (.str i) .non = false := (rfl)
@[simp] theorem eqv_non_str (i : Tx) : eqv .non (.str i) = false := (rfl)
theorem sIx_none (n d : Nat) : HT.sIx n d none = d := (rfl)
@[simp] theorem cut_to {α : Type} (xs : List α) (o : Nat) : cut xs none (some (o : Int)) = xs.take o := by
  unfold cut
  rw [HT.sIx_nat, HT.sIx_none, List.drop_zero, Nat.sub_zero]
  by_cases h : o ≤ xs.length
  · rw [Nat.min_eq_left h]
  · rw [Nat.min_eq_right (by omega), List.take_of_length_le (Nat.le_refl _), List.take_of_length_le (by omega)]
@[simp] theorem cut_from {α : Type} (xs : List α) (o : Nat) : cut xs (some (o : Int)) none = xs.drop o := by
  unfold cut
  rw [HT.sIx_nat, HT.sIx_none]
  by_cases h : o ≤ xs.length
  · rw [Nat.min_eq_left h, List.take_of_length_le (by simp)]
  · rw [Nat.min_eq_right (by omega), List.drop_of_length_le (Nat.le_refl _), List.drop_of_length_le (by omega), List.take_nil]
@[simp] theorem cut_both {α : Type} (xs : List α) (a b : Nat) : cut xs (some (a : Int)) (some (b : Int)) = (xs.drop a).take (b - a) := by
  unfold cut
  rw [HT.sIx_nat, HT.sIx_nat]
  by_cases h : a ≤ xs.length
  · rw [Nat.min_eq_left h]
    by_cases h2 : b ≤ xs.length
    · rw [Nat.min_eq_left h2]
    · rw [Nat.min_eq_right (show xs.length ≤ b by omega), List.take_of_length_le (by simp), List.take_of_length_le (by simp; omega)]
  · rw [Nat.min_eq_right (show xs.length ≤ a by omega), List.drop_of_length_le (Nat.le_refl _), List.drop_of_length_le (by omega)]
    simp
/-! ### the order of data -/
theorem ltDt_cons {x y : D} {xs ys : List D} (ha : alikeD x y = true) (hx : isData 64 x = true) (hy : isData 64 y = true) : ltDt (.tup (x :: xs)) (.tup (y :: ys)) = if eqv x y then ltDt (.tup xs) (.tup ys) else ltDt x y := by
  unfold ltDt
  simp only [toPy, toPys]
  rw [PySem.W.dataLt_tuple, PySem.W.dataLt_tuple, PySem.W.dataLt_cons ha, eqv_py 64 64 x y hx hy]
theorem ltDt_nil : ltDt (.tup []) (.tup []) = false := by
  unfold ltDt
  simp only [toPy, toPys]
  rw [PySem.W.dataLt_tuple]
  exact PySem.W.dataLt_ints [] []
@[simp] theorem ltDt_int (i j : Int) : ltDt (.int i) (.int j) = decide (i < j) := PySem.W.dataLt_int i j
@[simp] theorem ltDt_str (i j : Tx) : ltDt (.str i) (.str j) = ltTx i j := PySem.W.dataLt_str _ _
@[simp] theorem alike_int (i j : Int) : alikeD (.int i) (.int j) = true := by simp [alikeD, toPy, PySem.W.alike]
@[simp] theorem alike_str (i j : Tx) : alikeD (.str i) (.str j) = true := by simp [alikeD, toPy, PySem.W.alike]
theorem alike_tup {x y : D} {xs ys : List D} (h : alikeD x y = true) (h2 : alikeD (.tup xs) (.tup ys) = true) : alikeD (.tup (x :: xs)) (.tup (y :: ys)) = true := by
  unfold alikeD at *
  simp only [toPy, toPys, PySem.W.alike, PySem.W.alikeAll] at *
  rw [h, h2]; rfl
theorem alike_tup0 {ys : List D} : alikeD (.tup []) (.tup ys) = true := by
  unfold alikeD
  simp [toPy, toPys, PySem.W.alike, PySem.W.alikeAll]
theorem eqv_tup_cons (x y : D) (xs ys : List D) : eqv (.tup (x :: xs)) (.tup (y :: ys)) = (eqv x y && eqv (.tup xs) (.tup ys)) := by
  simp [eqv, nz, nzs, D.beq, D.beqs]
theorem eqv_tup_nil : eqv (.tup []) (.tup []) = true := (rfl)
end Z
end

set_option maxRecDepth 100000
namespace Law
open PySem L2 Z
def top (i : Nat) : Stmt := PySem.Challenge.pw_lineworks_k50_values_are_ordered.main.body.getD i (.Pass ⟨0, 0, 0, 0⟩)
def gd : List (Str × Nat) := [("value_key", 0), ("row_key", 1), ("_law_draw", 2), ("_law_next", 3), ("_law_signs", 4), ("_law_value", 5), ("_law_text_before", 6), ("_law_before", 7), ("_law_equal", 8), ("_law_row_before", 9), ("law", 10)]
def gb : List Str := ["isinstance", "str", "tuple", "list", "len", "abs", "int", "range", "min"]
def gc : List (Str × Nat) := []
def c0 : Cs := { N := ["value"], sc := defScope (top 1), gd := gd, gc := gc, gb := gb, fl := [], mt := [], cells := [], frz := [], retc := false }
def c1 : Cs := { N := ["row", "value"], sc := defScope (top 2), gd := gd, gc := gc, gb := gb, fl := [], mt := [], cells := [], frz := [], retc := false }
def c2 : Cs := { N := ["script"], sc := defScope (top 4), gd := gd, gc := gc, gb := gb, fl := [], mt := [], cells := [], frz := [], retc := true }
def c3 : Cs := { N := ["draw", "many", "found", "cell"], sc := defScope (top 5), gd := gd, gc := gc, gb := gb, fl := [], mt := [], cells := [], frz := [], retc := false }
def c4 : Cs := { N := [], sc := defScope (top 6), gd := gd, gc := gc, gb := gb, fl := [], mt := [], cells := [], frz := [], retc := false }
def c5 : Cs := { N := ["draw", "form", "signs", "k"], sc := defScope (top 7), gd := gd, gc := gc, gb := gb, fl := [], mt := [], cells := [], frz := [], retc := false }
def c6 : Cs := { N := ["first", "second", "k"], sc := defScope (top 8), gd := gd, gc := gc, gb := gb, fl := [], mt := [], cells := [], frz := [], retc := false }
def c7 : Cs := { N := ["first", "second"], sc := defScope (top 9), gd := gd, gc := gc, gb := gb, fl := [], mt := [], cells := [], frz := [], retc := false }
def c8 : Cs := { N := ["first", "second"], sc := defScope (top 10), gd := gd, gc := gc, gb := gb, fl := [], mt := [], cells := [], frz := [], retc := false }
def c9 : Cs := { N := ["first", "second", "k"], sc := defScope (top 11), gd := gd, gc := gc, gb := gb, fl := [], mt := [], cells := [], frz := [], retc := false }
def c10 : Cs := { N := ["script", "draw", "values", "k", "first", "second", "one", "two", "rows", "length", "turn", "equal"], sc := defScope (top 12), gd := gd, gc := gc, gb := gb, fl := [], mt := [], cells := ["rows"], frz := [], retc := false }
def b0 : List Z.St := [.ifs (.cmp (.is) (.var 0) (.con (.non))) [.ret (.tup [.con (.int 0), .con (.int 0), .con (.str [])])] [], .ifs (.bf (.isinst [1]) false [.var 0]) [.ret (.tup [.con (.int 2), .con (.int 0), .var 0])] [], .ret (.tup [.con (.int 1), .var 0, .con (.str [])])]
def d0 : Df := { slots := 1, params := 1, body := b0, keep := false, alone := true }
def b1 : List Z.St := [.ret (.bf (.tuple) false [.lc false (.call 0 [.var 1]) (.var 1) [1] (.seq) [.var 0] none])]
def d1 : Df := { slots := 2, params := 1, body := b1, keep := false, alone := true }
def b2 : List Z.St := [.ret (.lst true [.bf (.list) false [.var 0], .con (.int 0), .con (.int 0), .con (.int 17)])]
def d2 : Df := { slots := 1, params := 1, body := b2, keep := true, alone := false }
def b3 : List Z.St := [.ifs (.cmp (.gt) (.ix (.var 0) (.con (.int 2))) (.con (.int 0))) [.asg (.var 2) (.op (.mod) (.bf (.int) false [.ix (.var 0) (.con (.int 2))]) (.var 1)), .sub (.var 0) (.con (.int 2)) (.op (.fdiv) (.ix (.var 0) (.con (.int 2))) (.var 1)), .ret (.var 2)] [], .ifs (.cmp (.lt) (.ix (.var 0) (.con (.int 1))) (.bf (.len) false [.ix (.var 0) (.con (.int 0))])) [.asg (.var 3) (.bf (.abs) false [.ix (.ix (.var 0) (.con (.int 0))) (.ix (.var 0) (.con (.int 1)))]), .sub (.var 0) (.con (.int 1)) (.op (.add) (.ix (.var 0) (.con (.int 1))) (.con (.int 1))), .ifs (.cmp (.ge) (.var 3) (.op (.pow) (.con (.int 10)) (.con (.int 18)))) [.sub (.var 0) (.con (.int 2)) (.op (.fdiv) (.var 3) (.var 1)), .ret (.op (.mod) (.bf (.int) false [.var 3]) (.var 1))] [], .sub (.var 0) (.con (.int 3)) (.op (.mod) (.bf (.int) false [.op (.add) (.op (.add) (.op (.mul) (.ix (.var 0) (.con (.int 3))) (.con (.int 48271))) (.var 3)) (.con (.int 11))]) (.con (.int 2147483647)))] [.sub (.var 0) (.con (.int 3)) (.op (.mod) (.bf (.int) false [.op (.add) (.op (.mul) (.ix (.var 0) (.con (.int 3))) (.con (.int 48271))) (.con (.int 12345))]) (.con (.int 2147483647)))], .ret (.op (.mod) (.op (.fdiv) (.bf (.int) false [.op (.mod) (.op (.mul) (.ix (.var 0) (.con (.int 3))) (.con (.int 69621))) (.con (.int 2147483629))]) (.con (.int 7))) (.var 1))]
def d3 : Df := { slots := 4, params := 2, body := b3, keep := true, alone := false }
def b4 : List Z.St := [.ret (.con (.str [9, 10, 32, 33, 47, 48, 57, 65, 90, 95, 97, 98, 122, 126]))]
def d4 : Df := { slots := 0, params := 0, body := b4, keep := false, alone := true }
def b5 : List Z.St := [.asg (.var 1) (.call 3 [.var 0, .con (.int 6)]), .ifs (.cmp (.eq) (.var 1) (.con (.int 0))) [.ret (.con (.non))] [], .ifs (.cmp (.lt) (.var 1) (.con (.int 3))) [.ret (.op (.sub) (.call 3 [.var 0, .con (.int 7)]) (.con (.int 3)))] [], .ifs (.cmp (.eq) (.var 1) (.con (.int 3))) [.ret (.op (.mul) (.op (.sub) (.op (.pow) (.con (.int 10)) (.con (.int 15))) (.call 3 [.var 0, .con (.int 2)])) (.op (.sub) (.con (.int 1)) (.op (.mul) (.con (.int 2)) (.call 3 [.var 0, .con (.int 2)]))))] [], .asg (.var 2) (.call 4 []), .ret (.bm (.join) (.con (.str [])) [.lc false (.ix (.var 2) (.call 3 [.var 0, .con (.int 14)])) (.var 3) [3] (.range) [.call 3 [.var 0, .con (.int 4)]] none])]
def d5 : Df := { slots := 4, params := 1, body := b5, keep := true, alone := false }
def b6 : List Z.St := [.fors (.var 2) (.range) [.bf (.min) false [.bf (.len) false [.var 0], .bf (.len) false [.var 1]]] [.ifs (.cmp (.ne) (.ix (.var 0) (.var 2)) (.ix (.var 1) (.var 2))) [.ret (.cmp (.lt) (.bm (.index) (.call 4 []) [.ix (.var 0) (.var 2)]) (.bm (.index) (.call 4 []) [.ix (.var 1) (.var 2)]))] []], .ret (.cmp (.lt) (.bf (.len) false [.var 0]) (.bf (.len) false [.var 1]))]
def d6 : Df := { slots := 3, params := 2, body := b6, keep := false, alone := true }
def b7 : List Z.St := [.ifs (.or (.cmp (.is) (.var 0) (.con (.non))) (.cmp (.is) (.var 1) (.con (.non)))) [.ret (.and (.cmp (.is) (.var 0) (.con (.non))) (.cmp (.isn) (.var 1) (.con (.non))))] [], .ifs (.cmp (.ne) (.bf (.isinst [1]) false [.var 0]) (.bf (.isinst [1]) false [.var 1])) [.ret (.bf (.isinst [1]) false [.var 1])] [], .ret (.ite (.bf (.isinst [1]) false [.var 0]) (.call 6 [.var 0, .var 1]) (.cmp (.lt) (.var 0) (.var 1)))]
def d7 : Df := { slots := 2, params := 2, body := b7, keep := false, alone := true }
def b8 : List Z.St := [.ret (.and (.not (.call 7 [.var 0, .var 1])) (.not (.call 7 [.var 1, .var 0])))]
def d8 : Df := { slots := 2, params := 2, body := b8, keep := false, alone := true }
def b9 : List Z.St := [.fors (.var 2) (.range) [.bf (.len) false [.var 0]] [.ifs (.not (.call 8 [.ix (.var 0) (.var 2), .ix (.var 1) (.var 2)])) [.ret (.call 7 [.ix (.var 0) (.var 2), .ix (.var 1) (.var 2)])] []], .ret (.con (.bl false))]
def d9 : Df := { slots := 3, params := 2, body := b9, keep := false, alone := true }
def b10 : List Z.St := [.asg (.var 1) (.call 2 [.var 0]), .asg (.var 2) (.lc false (.call 5 [.var 1]) (.var 3) [3] (.range) [.con (.int 3)] none), .fors (.var 4) (.seq) [.var 2] [.fors (.var 5) (.seq) [.var 2] [.asg (.var 6) (.call 0 [.var 4]), .asg (.var 7) (.call 0 [.var 5]), .ifs (.or (.not (.bf (.isinst [3]) false [.var 6])) (.not (.bf (.isinst [3]) false [.var 7]))) [.ret (.con (.bl false))] [], .ifs (.or (.cmp (.ne) (.cmp (.lt) (.var 6) (.var 7)) (.call 7 [.var 4, .var 5])) (.cmp (.ne) (.cmp (.eq) (.var 6) (.var 7)) (.call 8 [.var 4, .var 5]))) [.ret (.con (.bl false))] []]], .asg (.var 8) (.lst true []), .asg (.var 9) (.call 3 [.var 1, .con (.int 4)]), .fors (.var 10) (.range) [.con (.int 2)] [.expr (.bm (.append) (.var 8) [.bf (.tuple) false [.lc false (.ite (.call 3 [.var 1, .con (.int 2)]) (.call 5 [.var 1]) (.ix (.var 2) (.op (.mod) (.var 3) (.con (.int 3))))) (.var 3) [3] (.range) [.var 9] none]])], .asg (.var 6) (.call 1 [.ix (.var 8) (.con (.int 0))]), .asg (.var 7) (.call 1 [.ix (.var 8) (.con (.int 1))]), .ifs (.or (.not (.bf (.isinst [3]) false [.var 6])) (.not (.bf (.isinst [3]) false [.var 7]))) [.ret (.con (.bl false))] [], .asg (.var 11) (.and (.not (.call 9 [.ix (.var 8) (.con (.int 0)), .ix (.var 8) (.con (.int 1))])) (.not (.call 9 [.ix (.var 8) (.con (.int 1)), .ix (.var 8) (.con (.int 0))]))), .ret (.and (.cmp (.eq) (.cmp (.lt) (.var 6) (.var 7)) (.call 9 [.ix (.var 8) (.con (.int 0)), .ix (.var 8) (.con (.int 1))])) (.cmp (.eq) (.cmp (.eq) (.var 6) (.var 7)) (.var 11)))]
def d10 : Df := { slots := 12, params := 1, body := b10, keep := false, alone := true }
def G : Gm := { con := fun n => match n with  | _ => .non, defs := fun n => match n with | 0 => some d0 | 1 => some d1 | 2 => some d2 | 3 => some d3 | 4 => some d4 | 5 => some d5 | 6 => some d6 | 7 => some d7 | 8 => some d8 | 9 => some d9 | 10 => some d10 | _ => none, meth := fun _ _ => none, fuel := 1000000000 }
theorem k0 : cSs c0 60 (defBody (top 1)) = some b0 := by rfl
theorem s0 : FnScope c0.N ["value"] (defScope (top 1)) := ⟨rfl, rfl, rfl, by decide +kernel, rfl, by decide +kernel, by decide +kernel⟩
theorem k1 : cSs c1 60 (defBody (top 2)) = some b1 := by rfl
theorem s1 : FnScope c1.N ["row"] (defScope (top 2)) := ⟨rfl, rfl, rfl, by decide +kernel, rfl, by decide +kernel, by decide +kernel⟩
theorem k2 : cSs c2 60 (defBody (top 4)) = some b2 := by rfl
theorem s2 : FnScope c2.N ["script"] (defScope (top 4)) := ⟨rfl, rfl, rfl, by decide +kernel, rfl, by decide +kernel, by decide +kernel⟩
theorem k3 : cSs c3 60 (defBody (top 5)) = some b3 := by rfl
theorem s3 : FnScope c3.N ["draw", "many"] (defScope (top 5)) := ⟨rfl, rfl, rfl, by decide +kernel, rfl, by decide +kernel, by decide +kernel⟩
theorem k4 : cSs c4 60 (defBody (top 6)) = some b4 := by rfl
theorem s4 : FnScope c4.N [] (defScope (top 6)) := ⟨rfl, rfl, rfl, by decide +kernel, rfl, by decide +kernel, by decide +kernel⟩
theorem k5 : cSs c5 60 (defBody (top 7)) = some b5 := by rfl
theorem s5 : FnScope c5.N ["draw"] (defScope (top 7)) := ⟨rfl, rfl, rfl, by decide +kernel, rfl, by decide +kernel, by decide +kernel⟩
theorem k6 : cSs c6 60 (defBody (top 8)) = some b6 := by rfl
theorem s6 : FnScope c6.N ["first", "second"] (defScope (top 8)) := ⟨rfl, rfl, rfl, by decide +kernel, rfl, by decide +kernel, by decide +kernel⟩
theorem k7 : cSs c7 60 (defBody (top 9)) = some b7 := by rfl
theorem s7 : FnScope c7.N ["first", "second"] (defScope (top 9)) := ⟨rfl, rfl, rfl, by decide +kernel, rfl, by decide +kernel, by decide +kernel⟩
theorem k8 : cSs c8 60 (defBody (top 10)) = some b8 := by rfl
theorem s8 : FnScope c8.N ["first", "second"] (defScope (top 10)) := ⟨rfl, rfl, rfl, by decide +kernel, rfl, by decide +kernel, by decide +kernel⟩
theorem k9 : cSs c9 60 (defBody (top 11)) = some b9 := by rfl
theorem s9 : FnScope c9.N ["first", "second"] (defScope (top 11)) := ⟨rfl, rfl, rfl, by decide +kernel, rfl, by decide +kernel, by decide +kernel⟩
theorem k10 : cSs c10 60 (defBody (top 12)) = some b10 := by rfl
theorem s10 : FnScope c10.N ["script"] (defScope (top 12)) := ⟨rfl, rfl, rfl, by decide +kernel, rfl, by decide +kernel, by decide +kernel⟩
theorem all_mk {l : PySem.W.OpenLaw} {w : World} {K : PySem.W.Frag} {h : Heap} {mg : Str → Option Value} {fa : Addr} (X : K.In h) (GN : h.Ns mainGlobals mg) (hfa : mg "law" = some (.ref fa))
    {f0 f1 f2 f3 f4 f5 f6 f7 f8 f9 f10 : Addr} {od0 an0 od1 an1 od2 an2 od3 an3 od4 an4 od5 an5 od6 an6 od7 an7 od8 an8 od9 an9 od10 an10 : Option Addr} {sl0 sl1 sl2 sl3 sl4 sl5 sl6 sl7 sl8 sl9 sl10 : Array (Option Value)} {oc0 kV0 dc0 pm0 cd0 ct0 oc1 kV1 dc1 pm1 cd1 ct1 oc2 kV2 dc2 pm2 cd2 ct2 oc3 kV3 dc3 pm3 cd3 ct3 oc4 kV4 dc4 pm4 cd4 ct4 oc5 kV5 dc5 pm5 cd5 ct5 oc6 kV6 dc6 pm6 cd6 ct6 oc7 kV7 dc7 pm7 cd7 ct7 oc8 kV8 dc8 pm8 cd8 ct8 oc9 kV9 dc9 pm9 cd9 ct9 oc10 kV10 dc10 pm10 cd10 ct10 : Value}
    (a0 : PySem.W.nsIn K mainGlobals "value_key" = some (some (.ref f0))) (l0 : K.lookup f0 = some ⟨oc0, od0, .func (PySem.W.fnOf "value_key" "value_key" (defArgs (top 1)) (defBody (top 1)) (defScope (top 1)) .none kV0 dc0 pm0 an0 cd0 ct0), sl0⟩) (e0 : PySem.W.codeIn K cd0 "value_key" = true) (p0 : PySem.W.keepIn K (.ref f0) = true)
    (a1 : PySem.W.nsIn K mainGlobals "row_key" = some (some (.ref f1))) (l1 : K.lookup f1 = some ⟨oc1, od1, .func (PySem.W.fnOf "row_key" "row_key" (defArgs (top 2)) (defBody (top 2)) (defScope (top 2)) .none kV1 dc1 pm1 an1 cd1 ct1), sl1⟩) (e1 : PySem.W.codeIn K cd1 "row_key" = true) (p1 : PySem.W.keepIn K (.ref f1) = true)
    (a2 : PySem.W.nsIn K mainGlobals "_law_draw" = some (some (.ref f2))) (l2 : K.lookup f2 = some ⟨oc2, od2, .func (PySem.W.fnOf "_law_draw" "_law_draw" (defArgs (top 4)) (defBody (top 4)) (defScope (top 4)) .none kV2 dc2 pm2 an2 cd2 ct2), sl2⟩) (e2 : PySem.W.codeIn K cd2 "_law_draw" = true) (p2 : PySem.W.keepIn K (.ref f2) = true)
    (a3 : PySem.W.nsIn K mainGlobals "_law_next" = some (some (.ref f3))) (l3 : K.lookup f3 = some ⟨oc3, od3, .func (PySem.W.fnOf "_law_next" "_law_next" (defArgs (top 5)) (defBody (top 5)) (defScope (top 5)) .none kV3 dc3 pm3 an3 cd3 ct3), sl3⟩) (e3 : PySem.W.codeIn K cd3 "_law_next" = true) (p3 : PySem.W.keepIn K (.ref f3) = true)
    (a4 : PySem.W.nsIn K mainGlobals "_law_signs" = some (some (.ref f4))) (l4 : K.lookup f4 = some ⟨oc4, od4, .func (PySem.W.fnOf "_law_signs" "_law_signs" (defArgs (top 6)) (defBody (top 6)) (defScope (top 6)) .none kV4 dc4 pm4 an4 cd4 ct4), sl4⟩) (e4 : PySem.W.codeIn K cd4 "_law_signs" = true) (p4 : PySem.W.keepIn K (.ref f4) = true)
    (a5 : PySem.W.nsIn K mainGlobals "_law_value" = some (some (.ref f5))) (l5 : K.lookup f5 = some ⟨oc5, od5, .func (PySem.W.fnOf "_law_value" "_law_value" (defArgs (top 7)) (defBody (top 7)) (defScope (top 7)) .none kV5 dc5 pm5 an5 cd5 ct5), sl5⟩) (e5 : PySem.W.codeIn K cd5 "_law_value" = true) (p5 : PySem.W.keepIn K (.ref f5) = true)
    (a6 : PySem.W.nsIn K mainGlobals "_law_text_before" = some (some (.ref f6))) (l6 : K.lookup f6 = some ⟨oc6, od6, .func (PySem.W.fnOf "_law_text_before" "_law_text_before" (defArgs (top 8)) (defBody (top 8)) (defScope (top 8)) .none kV6 dc6 pm6 an6 cd6 ct6), sl6⟩) (e6 : PySem.W.codeIn K cd6 "_law_text_before" = true) (p6 : PySem.W.keepIn K (.ref f6) = true)
    (a7 : PySem.W.nsIn K mainGlobals "_law_before" = some (some (.ref f7))) (l7 : K.lookup f7 = some ⟨oc7, od7, .func (PySem.W.fnOf "_law_before" "_law_before" (defArgs (top 9)) (defBody (top 9)) (defScope (top 9)) .none kV7 dc7 pm7 an7 cd7 ct7), sl7⟩) (e7 : PySem.W.codeIn K cd7 "_law_before" = true) (p7 : PySem.W.keepIn K (.ref f7) = true)
    (a8 : PySem.W.nsIn K mainGlobals "_law_equal" = some (some (.ref f8))) (l8 : K.lookup f8 = some ⟨oc8, od8, .func (PySem.W.fnOf "_law_equal" "_law_equal" (defArgs (top 10)) (defBody (top 10)) (defScope (top 10)) .none kV8 dc8 pm8 an8 cd8 ct8), sl8⟩) (e8 : PySem.W.codeIn K cd8 "_law_equal" = true) (p8 : PySem.W.keepIn K (.ref f8) = true)
    (a9 : PySem.W.nsIn K mainGlobals "_law_row_before" = some (some (.ref f9))) (l9 : K.lookup f9 = some ⟨oc9, od9, .func (PySem.W.fnOf "_law_row_before" "_law_row_before" (defArgs (top 11)) (defBody (top 11)) (defScope (top 11)) .none kV9 dc9 pm9 an9 cd9 ct9), sl9⟩) (e9 : PySem.W.codeIn K cd9 "_law_row_before" = true) (p9 : PySem.W.keepIn K (.ref f9) = true)
    (a10 : PySem.W.nsIn K mainGlobals "law" = some (some (.ref f10))) (l10 : K.lookup f10 = some ⟨oc10, od10, .func (PySem.W.fnOf "law" "law" (defArgs (top 12)) (defBody (top 12)) (defScope (top 12)) .none kV10 dc10 pm10 an10 cd10 ct10), sl10⟩) (e10 : PySem.W.codeIn K cd10 "law" = true) (p10 : PySem.W.keepIn K (.ref f10) = true)
    (z0 : PySem.W.nsIn K mainGlobals "isinstance" = some none)
    (z1 : PySem.W.nsIn K mainGlobals "str" = some none)
    (z2 : PySem.W.nsIn K mainGlobals "tuple" = some none)
    (z3 : PySem.W.nsIn K mainGlobals "list" = some none)
    (z4 : PySem.W.nsIn K mainGlobals "len" = some none)
    (z5 : PySem.W.nsIn K mainGlobals "abs" = some none)
    (z6 : PySem.W.nsIn K mainGlobals "int" = some none)
    (z7 : PySem.W.nsIn K mainGlobals "range" = some none)
    (z8 : PySem.W.nsIn K mainGlobals "min" = some none)
    (hlaw : ∀ ns : List Int, ns.length ≤ 63 → ∃ S', run G 60 10 [.d (.scr ns)] [] = .ok (.d (.bl true)) S') :
    ∃ fd : FuncData, (∀ (s : Shared) (v : Value), BindsTo s fd ⟨[v], []⟩ [("script", v)]) ∧ ∀ base : Heap, K.In base → base.Ns mainGlobals mg → FnOk l.prog w K mg base CX0 60 fa fd ["script"] (spLaw K) := by
  have e := hfa.symm.trans (PySem.W.mg_of X GN a10)
  cases e
  let W : Wd := { K := K, fa := fun n => match n with | 0 => f0 | 1 => f1 | 2 => f2 | 3 => f3 | 4 => f4 | 5 => f5 | 6 => f6 | 7 => f7 | 8 => f8 | 9 => f9 | 10 => fa | _ => 0, ca := fun _ => 0, nm := fun _ => "" }
  have F0 := fun_mk (st := top 1) l0 e0 p0
  have B0 := F0.binds (ps := ["value"])  fun _ _ _ _ _ _ us hl => match us, hl with | [_], _ => rfl
  have F1 := fun_mk (st := top 2) l1 e1 p1
  have B1 := F1.binds (ps := ["row"])  fun _ _ _ _ _ _ us hl => match us, hl with | [_], _ => rfl
  have F2 := fun_mk (st := top 4) l2 e2 p2
  have B2 := F2.binds (ps := ["script"])  fun _ _ _ _ _ _ us hl => match us, hl with | [_], _ => rfl
  have F3 := fun_mk (st := top 5) l3 e3 p3
  have B3 := F3.binds (ps := ["draw", "many"])  fun _ _ _ _ _ _ us hl => match us, hl with | [_, _], _ => rfl
  have F4 := fun_mk (st := top 6) l4 e4 p4
  have B4 := F4.binds (ps := [])  fun _ _ _ _ _ _ us hl => match us, hl with | [], _ => rfl
  have F5 := fun_mk (st := top 7) l5 e5 p5
  have B5 := F5.binds (ps := ["draw"])  fun _ _ _ _ _ _ us hl => match us, hl with | [_], _ => rfl
  have F6 := fun_mk (st := top 8) l6 e6 p6
  have B6 := F6.binds (ps := ["first", "second"])  fun _ _ _ _ _ _ us hl => match us, hl with | [_, _], _ => rfl
  have F7 := fun_mk (st := top 9) l7 e7 p7
  have B7 := F7.binds (ps := ["first", "second"])  fun _ _ _ _ _ _ us hl => match us, hl with | [_, _], _ => rfl
  have F8 := fun_mk (st := top 10) l8 e8 p8
  have B8 := F8.binds (ps := ["first", "second"])  fun _ _ _ _ _ _ us hl => match us, hl with | [_, _], _ => rfl
  have F9 := fun_mk (st := top 11) l9 e9 p9
  have B9 := F9.binds (ps := ["first", "second"])  fun _ _ _ _ _ _ us hl => match us, hl with | [_, _], _ => rfl
  have F10 := fun_mk (st := top 12) l10 e10 p10
  have B10 := F10.binds (ps := ["script"])  fun _ _ _ _ _ _ us hl => match us, hl with | [_], _ => rfl
  have gdo : ∀ (x : Str) (f : Nat), gd.lookup x = some f → mg x = some (.ref (W.fa f)) ∧ ∃ d, G.defs f = some d :=
    gd_cons (PySem.W.mg_of X GN a0) ⟨_, rfl⟩ (gd_cons (PySem.W.mg_of X GN a1) ⟨_, rfl⟩ (gd_cons (PySem.W.mg_of X GN a2) ⟨_, rfl⟩ (gd_cons (PySem.W.mg_of X GN a3) ⟨_, rfl⟩ (gd_cons (PySem.W.mg_of X GN a4) ⟨_, rfl⟩ (gd_cons (PySem.W.mg_of X GN a5) ⟨_, rfl⟩ (gd_cons (PySem.W.mg_of X GN a6) ⟨_, rfl⟩ (gd_cons (PySem.W.mg_of X GN a7) ⟨_, rfl⟩ (gd_cons (PySem.W.mg_of X GN a8) ⟨_, rfl⟩ (gd_cons (PySem.W.mg_of X GN a9) ⟨_, rfl⟩ (gd_cons (PySem.W.mg_of X GN a10) ⟨_, rfl⟩ gd_nil))))))))))
  have gbo : ∀ x : Str, x ∈ gb → mg x = none :=
    gb_cons (PySem.W.mg_none_of X GN z0) (gb_cons (PySem.W.mg_none_of X GN z1) (gb_cons (PySem.W.mg_none_of X GN z2) (gb_cons (PySem.W.mg_none_of X GN z3) (gb_cons (PySem.W.mg_none_of X GN z4) (gb_cons (PySem.W.mg_none_of X GN z5) (gb_cons (PySem.W.mg_none_of X GN z6) (gb_cons (PySem.W.mg_none_of X GN z7) (gb_cons (PySem.W.mg_none_of X GN z8) gb_nil))))))))
  have gco : ∀ (x : Str) (g : Nat), gc.lookup x = some g → ∃ v u, mg x = some u ∧ RelV v u ∧ ∀ F, Rp W F (G.con g) v :=
    gc_nil
  have M0 : ModOk mg W G c0 := ⟨gbo, gdo, gco⟩
  have D0 : DefOk K mg W G 0 d0 c0 60 _ _ _ _ := ⟨F0, s0, rfl, rfl, k0, rfl, rfl, B0⟩
  have M1 : ModOk mg W G c1 := ⟨gbo, gdo, gco⟩
  have D1 : DefOk K mg W G 1 d1 c1 60 _ _ _ _ := ⟨F1, s1, rfl, rfl, k1, rfl, rfl, B1⟩
  have M2 : ModOk mg W G c2 := ⟨gbo, gdo, gco⟩
  have D2 : DefOk K mg W G 2 d2 c2 60 _ _ _ _ := ⟨F2, s2, rfl, rfl, k2, rfl, rfl, B2⟩
  have M3 : ModOk mg W G c3 := ⟨gbo, gdo, gco⟩
  have D3 : DefOk K mg W G 3 d3 c3 60 _ _ _ _ := ⟨F3, s3, rfl, rfl, k3, rfl, rfl, B3⟩
  have M4 : ModOk mg W G c4 := ⟨gbo, gdo, gco⟩
  have D4 : DefOk K mg W G 4 d4 c4 60 _ _ _ _ := ⟨F4, s4, rfl, rfl, k4, rfl, rfl, B4⟩
  have M5 : ModOk mg W G c5 := ⟨gbo, gdo, gco⟩
  have D5 : DefOk K mg W G 5 d5 c5 60 _ _ _ _ := ⟨F5, s5, rfl, rfl, k5, rfl, rfl, B5⟩
  have M6 : ModOk mg W G c6 := ⟨gbo, gdo, gco⟩
  have D6 : DefOk K mg W G 6 d6 c6 60 _ _ _ _ := ⟨F6, s6, rfl, rfl, k6, rfl, rfl, B6⟩
  have M7 : ModOk mg W G c7 := ⟨gbo, gdo, gco⟩
  have D7 : DefOk K mg W G 7 d7 c7 60 _ _ _ _ := ⟨F7, s7, rfl, rfl, k7, rfl, rfl, B7⟩
  have M8 : ModOk mg W G c8 := ⟨gbo, gdo, gco⟩
  have D8 : DefOk K mg W G 8 d8 c8 60 _ _ _ _ := ⟨F8, s8, rfl, rfl, k8, rfl, rfl, B8⟩
  have M9 : ModOk mg W G c9 := ⟨gbo, gdo, gco⟩
  have D9 : DefOk K mg W G 9 d9 c9 60 _ _ _ _ := ⟨F9, s9, rfl, rfl, k9, rfl, rfl, B9⟩
  have M10 : ModOk mg W G c10 := ⟨gbo, gdo, gco⟩
  have D10 : DefOk K mg W G 10 d10 c10 60 _ _ _ _ := ⟨F10, s10, rfl, rfl, k10, rfl, rfl, B10⟩
  have hd : ∀ f d, G.defs f = some d → ∃ C n x st fd ps, DefOk K mg W G f d C n x st fd ps ∧ ModOk mg W G C := fun f d h => by
    match f, h with
    | 0, h => cases h; exact ⟨_, _, _, _, _, _, D0, M0⟩
    | 1, h => cases h; exact ⟨_, _, _, _, _, _, D1, M1⟩
    | 2, h => cases h; exact ⟨_, _, _, _, _, _, D2, M2⟩
    | 3, h => cases h; exact ⟨_, _, _, _, _, _, D3, M3⟩
    | 4, h => cases h; exact ⟨_, _, _, _, _, _, D4, M4⟩
    | 5, h => cases h; exact ⟨_, _, _, _, _, _, D5, M5⟩
    | 6, h => cases h; exact ⟨_, _, _, _, _, _, D6, M6⟩
    | 7, h => cases h; exact ⟨_, _, _, _, _, _, D7, M7⟩
    | 8, h => cases h; exact ⟨_, _, _, _, _, _, D8, M8⟩
    | 9, h => cases h; exact ⟨_, _, _, _, _, _, D9, M9⟩
    | 10, h => cases h; exact ⟨_, _, _, _, _, _, D10, M10⟩
    | _ + 11, h => cases h
  exact ⟨_, fun s v => .of_eq rfl, fun base _ _ => law_fn (W := W) (G := G) rfl (defs_ok (P := l.prog) (w := w) (base := base) (W := W) (G := G) rfl hd 60 10 d10 rfl D10 M10) hlaw⟩
end Law
namespace Law
open Z
abbrev sgn : Tx := [9, 10, 32, 33, 47, 48, 57, 65, 90, 95, 97, 98, 122, 126]
def Vt (s : Tx) : Prop := s.length ≤ 1000 ∧ ∀ c ∈ s, c ∈ sgn
def Vd (d : D) : Prop := d = .non ∨ (∃ i, d = .int i) ∨ ∃ s, d = .str s ∧ Vt s
def keyD : D → D
  | .non => .tup [.int 0, .int 0, .str []]
  | .str s => .tup [.int 2, .int 0, .str s]
  | d => .tup [.int 1, d, .str []]
def befD : D → D → Bool
  | .non, .non => false
  | .non, _ => true
  | _, .non => false
  | .str s, .str t => ltTx s t
  | .str _, _ => false
  | _, .str _ => true
  | .int i, .int j => decide (i < j)
  | _, _ => false
theorem key_run (k : Nat) (d : D) (hd : Vd d) (S : Sto) : run G (k + 1) 0 [.d d] S = .ok (.d (keyD d)) S := by
  rw [run_alone (d := d0) rfl rfl rfl rfl]
  rcases hd with rfl | ⟨i, rfl⟩ | ⟨s, rfl, hs⟩ <;> simp [d0, b0, keyD]
theorem signs_run (k : Nat) (S : Sto) : run G (k + 1) 4 [] S = .ok (.d (.str sgn)) S := by
  rw [run_alone (d := d4) rfl rfl rfl rfl]
  simp [d4, b4]
def idx (c : Nat) : Nat := sgn.findIdx (· == c)
theorem occ_sgn (c : Nat) (hc : c ∈ sgn) : PySem.Builtin.Str.occurrences (mk sgn) (mk [c]) 0 (mk sgn).length 1 = [idx c] := by
  have h : (sgn.all fun c => PySem.Builtin.Str.occurrences (mk sgn) (mk [c]) 0 (mk sgn).length 1 == [idx c]) = true := by decide +kernel
  exact beq_iff_eq.mp (List.all_eq_true.mp h c hc)
theorem idx_lt (c d : Nat) (hc : c ∈ sgn) (hd : d ∈ sgn) : ((idx c : Int) < (idx d : Int)) ↔ c < d := by
  have h : (sgn.all fun c => sgn.all fun d => decide ((idx c : Int) < (idx d : Int)) == decide (c < d)) = true := by decide +kernel
  have := beq_iff_eq.mp (List.all_eq_true.mp (List.all_eq_true.mp h c hc) d hd)
  simpa using this
theorem lt_at : ∀ (s t : Tx) (j : Nat), (∀ m, m < j → s[m]? = t[m]?) → ∀ (h1 : j < s.length) (h2 : j < t.length), s[j] ≠ t[j] → (ltTx s t = decide (s[j] < t[j]))
  | [], t, j, _, h1, _, _ => by simp at h1
  | x :: s, [], j, _, _, h2, _ => by simp at h2
  | x :: s, y :: t, 0, _, _, _, hne => by
    unfold ltTx
    have hne : x ≠ y := by simpa using hne
    simp [List.cons_lt_cons_iff, hne]
  | x :: s, y :: t, j + 1, h, h1, h2, hne => by
    have e : x = y := by simpa using h 0 (by omega)
    subst e
    have ih := lt_at s t j (fun m hm => by simpa using h (m + 1) (by omega)) (by simpa using h1) (by simpa using h2) (by simpa using hne)
    unfold ltTx at ih ⊢
    simpa [List.cons_lt_cons_iff] using ih
theorem lt_end : ∀ (s t : Tx), (∀ m, m < min s.length t.length → s[m]? = t[m]?) → (ltTx s t = decide (s.length < t.length))
  | [], t, _ => by cases t <;> simp [ltTx]
  | x :: s, [], _ => by simp [ltTx]
  | x :: s, y :: t, h => by
    have e : x = y := by simpa using h 0 (by simp)
    subst e
    have ih := lt_end s t (fun m hm => by simpa using h (m + 1) (by simp; omega))
    unfold ltTx at ih ⊢
    simpa [List.cons_lt_cons_iff] using ih
theorem text_run (k : Nat) (s t : Tx) (hs : Vt s) (ht : Vt t) (S0 : Sto) : run G (k + 2) 6 [.d (.str s), .d (.str t)] S0 = .ok (.d (.bl (ltTx s t))) S0 := by
  rw [run_alone (d := d6) rfl rfl rfl rfl]
  have l1 : s.length ≤ 16777216 := by have := hs.1; omega
  have l2 : t.length ≤ 16777216 := by have := ht.1; omega
  have hmin : (if t.length < s.length then (t.length : Int) else (s.length : Int)) = ((min s.length t.length : Nat) : Int) := by split <;> omega
  simp only [d6, b6]
  simp [l1, l2, hmin, wk_rngN (n := min s.length t.length) (by have := hs.1; omega)]
  refine fors_range (n := min s.length t.length) (fun j ρ S => S = [] ∧ (∃ x, ρ = [some (.d (.str s)), some (.d (.str t)), x]) ∧ ∀ m, m < j → s[m]? = t[m]?) (fun r => outA S0 ((r.mapS (unl none)).seq (exs G (run G (k + 1)) [.ret (.cmp (.lt) (.bf (.len) false [.var 0]) (.bf (.len) false [.var 1]))])) = .ok (.d (.bl (ltTx s t))) S0) ?_ ?_ ⟨rfl, ⟨_, rfl⟩, fun m hm => absurd hm (Nat.not_lt_zero _)⟩
  · rintro j ρ S hj ⟨rfl, ⟨x, rfl⟩, hpre⟩
    have h1 : j < s.length := by omega
    have h2 : j < t.length := by omega
    by_cases he : s[j] = t[j]
    · refine .inl ⟨[some (.d (.str s)), some (.d (.str t)), some (.d (.int j))], [], .inl ?_, rfl, ⟨_, rfl⟩, fun m hm => ?_⟩
      · simp [l1, l2, h1, h2, he]
      · by_cases hmj : m = j
        · subst hmj; rw [List.getElem?_eq_getElem h1, List.getElem?_eq_getElem h2, he]
        · exact hpre m (by omega)
    · refine .inr (.inr ⟨.d (.bl (ltTx s t)), [], ?_, by simp⟩)
      have c1 : s[j] ∈ sgn := hs.2 _ (List.getElem_mem h1)
      have c2 : t[j] ∈ sgn := ht.2 _ (List.getElem_mem h2)
      rw [lt_at s t j hpre h1 h2 he]
      simp [l1, l2, h1, h2, he, signs_run, sIndex, occ_sgn _ c1, occ_sgn _ c2, idx_lt _ _ c1 c2]
  · rintro ρ S ⟨rfl, ⟨x, rfl⟩, hpre⟩
    rw [lt_end s t hpre]
    simp [l1, l2]
theorem bef_run (k : Nat) (a b : D) (ha : Vd a) (hb : Vd b) (S : Sto) : run G (k + 3) 7 [.d a, .d b] S = .ok (.d (.bl (befD a b))) S := by
  rw [run_alone (d := d7) rfl rfl rfl rfl]
  rcases ha with rfl | ⟨i, rfl⟩ | ⟨s, rfl, hs⟩ <;> rcases hb with rfl | ⟨j, rfl⟩ | ⟨t, rfl, ht⟩
  · simp [d7, b7, befD]
  · simp [d7, b7, befD]
  · simp [d7, b7, befD]
  · simp [d7, b7, befD]
  · simp [d7, b7, befD]
  · simp [d7, b7, befD]
  · simp [d7, b7, befD]
  · simp [d7, b7, befD]
  · simp [d7, b7, befD, text_run k s t hs ht]
def eqD (a b : D) : Bool := !befD a b && !befD b a
theorem eq_run (k : Nat) (a b : D) (ha : Vd a) (hb : Vd b) (S : Sto) : run G (k + 4) 8 [.d a, .d b] S = .ok (.d (.bl (eqD a b))) S := by
  rw [run_alone (d := d8) rfl rfl rfl rfl]
  unfold eqD
  cases h : befD a b <;> simp [d8, b8, bef_run k a b ha hb, bef_run k b a hb ha, h]
theorem tx_irr (s : Tx) : ltTx s s = false := by simp [ltTx, List.lt_irrefl]
theorem tx_tri {s t : Tx} (h1 : ltTx s t = false) (h2 : ltTx t s = false) : s = t := by
  simp only [ltTx, decide_eq_false_iff_not] at h1 h2
  exact List.le_antisymm h2 h1
theorem key_alike (a b : D) (ha : Vd a) (hb : Vd b) : alikeD (keyD a) (keyD b) = true := by
  rcases ha with rfl | ⟨i, rfl⟩ | ⟨s, rfl, hs⟩ <;> rcases hb with rfl | ⟨j, rfl⟩ | ⟨t, rfl, ht⟩ <;>
    exact alike_tup (alike_int _ _) (alike_tup (alike_int _ _) (alike_tup (alike_str _ _) alike_tup0))
theorem sgn_ok {s : Tx} (h : Vt s) : (s.all fun c => decide (c < 1114112)) = true := by
  rw [List.all_eq_true]
  intro c hc
  have h2 : (sgn.all fun c => decide (c < 1114112)) = true := by decide +kernel
  exact List.all_eq_true.mp h2 c (h.2 c hc)
theorem key_data (n : Nat) (a : D) (ha : Vd a) : isData (n + 1) (keyD a) = true := by
  rcases ha with rfl | ⟨i, rfl⟩ | ⟨s, rfl, hs⟩
  · simp [keyD, isData_tup]
  · simp [keyD, isData_tup]
  · have := sgn_ok hs
    simp only [keyD, isData_tup, isDatas_cons, isDatas_nil, isData_int, isData_str, this, Bool.and_self]
theorem str_data {s : Tx} (h : Vt s) : isData 64 (.str s) = true := by rw [isData_str]; exact sgn_ok h
theorem lt3 (a b c a' b' : Int) (s t : Tx) (hs : isData 64 (.str s) = true) (ht : isData 64 (.str t) = true) : ltDt (.tup [.int a, .int b, .str s]) (.tup [.int a', .int b', .str t]) = if a = a' then (if b = b' then ltTx s t else decide (b < b')) else decide (a < a') := by
  rw [ltDt_cons (alike_int _ _) (isData_int) (isData_int), ltDt_cons (alike_int _ _) (isData_int) (isData_int), ltDt_cons (alike_str _ _) hs ht, ltDt_nil]
  simp only [eqv_int, eqv_str, ltDt_int, ltDt_str, decide_eq_true_eq]
  by_cases h : s = t
  · subst h; simp [tx_irr]
  · simp [h]
theorem eq3 (a b a' b' : Int) (s t : Tx) : eqv (.tup [.int a, .int b, .str s]) (.tup [.int a', .int b', .str t]) = (decide (a = a') && (decide (b = b') && decide (s = t))) := by
  rw [eqv_tup_cons, eqv_tup_cons, eqv_tup_cons, eqv_tup_nil]
  simp
theorem key_lt (a b : D) (ha : Vd a) (hb : Vd b) : ltDt (keyD a) (keyD b) = befD a b := by
  have e0 : isData 64 (.str []) = true := by rw [isData_str]; rfl
  rcases ha with rfl | ⟨i, rfl⟩ | ⟨s, rfl, hs⟩ <;> rcases hb with rfl | ⟨j, rfl⟩ | ⟨t, rfl, ht⟩ <;> unfold keyD befD <;> dsimp only
  all_goals rw [lt3 (c := 0)]
  all_goals first
    | exact e0
    | exact str_data hs
    | exact str_data ht
    | skip
  all_goals simp [tx_irr]
  by_cases h : i = j
  · subst h; simp
  · simp [h]
theorem key_eq (a b : D) (ha : Vd a) (hb : Vd b) : eqv (keyD a) (keyD b) = eqD a b := by
  rcases ha with rfl | ⟨i, rfl⟩ | ⟨s, rfl, hs⟩ <;> rcases hb with rfl | ⟨j, rfl⟩ | ⟨t, rfl, ht⟩ <;> unfold keyD eqD befD <;> dsimp only <;> rw [eq3] <;> simp
  · rw [Bool.eq_iff_iff]; simp; omega
  · rw [Bool.eq_iff_iff]
    simp only [decide_eq_true_eq, Bool.and_eq_true, Bool.not_eq_true']
    constructor
    · rintro rfl; exact ⟨tx_irr s, tx_irr s⟩
    · rintro ⟨h1, h2⟩; exact tx_tri h1 h2
theorem rowkey_run (k : Nat) (ds : List D) (hd : ∀ d ∈ ds, Vd d) (hl : ds.length ≤ 1000) (S : Sto) : run G (k + 2) 1 [.d (.tup ds)] S = .ok (.d (.tup (ds.map keyD))) S := by
  rw [run_alone (d := d1) rfl rfl rfl rfl]
  have hl2 : ds.length ≤ 16777216 := by omega
  have e : ∀ ρ : Env, 1 < ρ.length → turns (lcB G (run G (k + 1)) none (.call 0 [.var 1])) (.var 1) ρ (ds.map .d) [] [] = .ok (ds.map fun d => .d (keyD d)) [] := fun ρ hρ => by
    rw [turns_ds keyD [] (fun d hd' => by simp [hρ, key_run k d (hd d hd')]) (by simpa using hl2)]
    simp
  simp [d1, b1, e, hl2, bTuple]
def rb : List D → List D → Bool
  | x :: xs, y :: ys => if eqD x y then rb xs ys else befD x y
  | _, _ => false
theorem rb_cons (x y : D) (xs ys : List D) : rb (x :: xs) (y :: ys) = if eqD x y then rb xs ys else befD x y := rfl
theorem rb_drop : ∀ (xs ys : List D) (j : Nat) (h1 : j < xs.length) (h2 : j < ys.length), rb (xs.drop j) (ys.drop j) = if eqD xs[j] ys[j] then rb (xs.drop (j + 1)) (ys.drop (j + 1)) else befD xs[j] ys[j] := fun xs ys j h1 h2 => by
  rw [List.drop_eq_getElem_cons h1, List.drop_eq_getElem_cons h2]
  rfl
theorem rowbef_run (k : Nat) (xs ys : List D) (hx : ∀ d ∈ xs, Vd d) (hy : ∀ d ∈ ys, Vd d) (hl : xs.length ≤ 1000) (he : ys.length = xs.length) (S0 : Sto) : run G (k + 5) 9 [.d (.tup xs), .d (.tup ys)] S0 = .ok (.d (.bl (rb xs ys))) S0 := by
  rw [run_alone (d := d9) rfl rfl rfl rfl]
  simp [d9, b9, wk_rngN (n := xs.length) (by omega)]
  refine fors_range (n := xs.length) (fun j ρ S => S = [] ∧ (∃ x, ρ = [some (.d (.tup xs)), some (.d (.tup ys)), x]) ∧ rb xs ys = rb (xs.drop j) (ys.drop j)) (fun r => outA S0 ((r.mapS (unl none)).seq (exs G (run G (k + 4)) [.ret (.con (.bl false))])) = .ok (.d (.bl (rb xs ys))) S0) ?_ ?_ ⟨rfl, ⟨_, rfl⟩, rfl⟩
  · rintro j ρ S hj ⟨rfl, ⟨x, rfl⟩, hpre⟩
    have h2 : j < ys.length := by omega
    have vx : Vd xs[j] := hx _ (List.getElem_mem hj)
    have vy : Vd ys[j] := hy _ (List.getElem_mem h2)
    rw [rb_drop xs ys j hj h2] at hpre
    cases hq : eqD xs[j] ys[j] with
    | true =>
      refine .inl ⟨[some (.d (.tup xs)), some (.d (.tup ys)), some (.d (.int j))], [], .inl ?_, rfl, ⟨_, rfl⟩, ?_⟩
      · simp [hj, h2, eq_run k _ _ vx vy, hq]
      · rw [hpre, hq]; rfl
    | false =>
      refine .inr (.inr ⟨.d (.bl (rb xs ys)), [], ?_, by simp⟩)
      rw [hpre, hq]
      simp [hj, h2, eq_run k _ _ vx vy, hq, bef_run (k + 1) _ _ vx vy]
  · rintro ρ S ⟨rfl, ⟨x, rfl⟩, hpre⟩
    have : rb xs ys = false := by
      rw [hpre, List.drop_of_length_le (Nat.le_refl _)]
      unfold rb; rfl
    simp [this]
theorem row_lt : ∀ (xs ys : List D), (∀ d ∈ xs, Vd d) → (∀ d ∈ ys, Vd d) → ys.length = xs.length → ltDt (.tup (xs.map keyD)) (.tup (ys.map keyD)) = rb xs ys
  | [], [], _, _, _ => ltDt_nil
  | [], y :: ys, _, _, h => by simp at h
  | x :: xs, [], _, _, h => by simp at h
  | x :: xs, y :: ys, hx, hy, h => by
    have vx := hx x (List.mem_cons_self ..)
    have vy := hy y (List.mem_cons_self ..)
    rw [List.map_cons, List.map_cons, ltDt_cons (key_alike x y vx vy) (key_data 63 x vx) (key_data 63 y vy), key_eq x y vx vy, key_lt x y vx vy, row_lt xs ys (fun d hd => hx d (List.mem_cons_of_mem _ hd)) (fun d hd => hy d (List.mem_cons_of_mem _ hd)) (by simpa using h)]
    rfl
theorem eqD_comm (a b : D) : eqD a b = eqD b a := by unfold eqD; rw [Bool.and_comm]
theorem row_eq : ∀ (xs ys : List D), (∀ d ∈ xs, Vd d) → (∀ d ∈ ys, Vd d) → ys.length = xs.length → eqv (.tup (xs.map keyD)) (.tup (ys.map keyD)) = (!rb xs ys && !rb ys xs)
  | [], [], _, _, _ => rfl
  | [], y :: ys, _, _, h => by simp at h
  | x :: xs, [], _, _, h => by simp at h
  | x :: xs, y :: ys, hx, hy, h => by
    have vx := hx x (List.mem_cons_self ..)
    have vy := hy y (List.mem_cons_self ..)
    rw [List.map_cons, List.map_cons, eqv_tup_cons, key_eq x y vx vy, row_eq xs ys (fun d hd => hx d (List.mem_cons_of_mem _ hd)) (fun d hd => hy d (List.mem_cons_of_mem _ hd)) (by simpa using h)]
    rw [rb_cons, rb_cons, eqD_comm y x]
    cases hq : eqD x y with
    | true => simp
    | false =>
      unfold eqD at hq
      simp only [Bool.false_and, Bool.false_eq_true, if_false]
      exact hq.symm
theorem row_alike : ∀ (xs ys : List D), (∀ d ∈ xs, Vd d) → (∀ d ∈ ys, Vd d) → alikeD (.tup (xs.map keyD)) (.tup (ys.map keyD)) = true ∨ ys.length ≠ xs.length
  | [], ys, _, _ => .inl alike_tup0
  | x :: xs, [], _, _ => .inr (by simp)
  | x :: xs, y :: ys, hx, hy => by
    rcases row_alike xs ys (fun d hd => hx d (List.mem_cons_of_mem _ hd)) (fun d hd => hy d (List.mem_cons_of_mem _ hd)) with h | h
    · exact .inl (alike_tup (key_alike x y (hx x (List.mem_cons_self ..)) (hy y (List.mem_cons_self ..))) h)
    · exact .inr (by simpa using h)
theorem datas_of {n : Nat} : ∀ {ds : List D}, (∀ d ∈ ds, isData n d = true) → isDatas n ds = true
  | [], _ => by simp
  | d :: ds, h => by rw [isDatas_cons, h d (List.mem_cons_self ..), datas_of fun e he => h e (List.mem_cons_of_mem _ he)]; rfl
theorem row_data (xs : List D) (hx : ∀ d ∈ xs, Vd d) : isData 64 (.tup (xs.map keyD)) = true := by
  rw [isData_tup]
  exact datas_of fun d hd => by
    obtain ⟨e, he, rfl⟩ := List.mem_map.mp hd
    exact key_data 62 e (hx e he)
theorem chars_run (k : Nat) (S : Sto) (n : Nat) (hn : n < S.length) (cnt : Nat) (hcnt : cnt ≤ 3) (c : Cell) (hc : DrawC c) : ∃ (ts : List Tx) (c' : Cell), DrawC c' ∧ ts.length = cnt ∧ (∀ t ∈ ts, ∃ ch, t = [ch] ∧ ch ∈ sgn) ∧ ∀ ρ : Env, (ρ[2]? = some (some (.d (.str sgn))) ∧ ρ[0]? = some (some (.p n))) →
    turns (lcB G (run G (k + 1)) none (.ix (.var 2) (.call 3 [.var 0, .con (.int 14)]))) (.var 3) ρ ((List.range cnt).map fun (i : Nat) => .d (.int (i : Int))) [] (S.set n c) = .ok (ts.map fun t => .d (.str t)) (S.set n c') := by
  obtain ⟨ys, S', ⟨c', rfl, hc'⟩, hl, hp, e⟩ := turns_all (f := lcB G (run G (k + 1)) none (.ix (.var 2) (.call 3 [.var 0, .con (.int 14)]))) (t := .var 3) (fun ρ => ρ[2]? = some (some (.d (.str sgn))) ∧ ρ[0]? = some (some (.p n)))
    (fun S' => ∃ c, S' = S.set n c ∧ DrawC c) (fun v => ∃ t : Tx, v = .d (.str t) ∧ ∃ ch, t = [ch] ∧ ch ∈ sgn) (xs := (List.range cnt).map fun (i : Nat) => .d (.int (i : Int))) [] (S := S.set n c)
    (fun v hv S' ⟨c, hS, hc⟩ => by
      subst hS
      obtain ⟨w, c1, e1, hc1, p1, q1⟩ := next_run (G := G) (k := k) (f := 3) rfl (m := 14) (by omega) (by omega) (S := S.set n c) (n := n) (by rw [List.getElem?_set_self hn]) hc
      have hw : w.toNat < sgn.length := by simp; omega
      refine ⟨.d (.str [sgn[w.toNat]]), S.set n c1, ⟨c1, rfl, hc1⟩, ⟨_, rfl, _, rfl, List.getElem_mem hw⟩, fun ρ hR => ⟨ρ.set 3 (some v), rfl, ?_⟩⟩
      have h2 : (ρ.set 3 (some v))[2]? = some (some (.d (.str sgn))) := by rw [List.getElem?_set_ne (by decide), hR.1]
      have h0 : (ρ.set 3 (some v))[0]? = some (some (.p n)) := by rw [List.getElem?_set_ne (by decide), hR.2]
      rw [List.set_set] at e1
      simp [h2, h0, e1, p1, q1]) ⟨c, rfl, hc⟩ (by simp; omega)
  obtain ⟨ts, rfl, ht⟩ := all_str hp
  exact ⟨ts, c', hc', by simpa using hl, ht, e⟩
theorem value_run (k : Nat) (S : Sto) (n : Nat) (c : Cell) (hS : S[n]? = some c) (hc : DrawC c) : ∃ d c', run G (k + 2) 5 [.p n] S = .ok (.d d) (S.set n c') ∧ DrawC c' ∧ Vd d := by
  have hn : n < S.length := (List.getElem?_eq_some_iff.mp hS).1
  obtain ⟨f, c1, e1, hc1, p1, q1⟩ := next_run (G := G) (k := k) (f := 3) rfl (m := 6) (by omega) (by omega) hS hc
  have s1 : ∀ c : Cell, (S.set n c)[n]? = some c := fun c => by rw [List.getElem?_set_self hn]
  by_cases h0 : f = 0
  · refine ⟨.non, c1, ?_, hc1, .inl rfl⟩
    rw [run_keep (d := d5) rfl rfl rfl]
    simp [d5, b5, e1, h0]
  · by_cases h3 : f < 3
    · obtain ⟨w, c2, e2, hc2, p2, q2⟩ := next_run (G := G) (k := k) (f := 3) rfl (m := 7) (by omega) (by omega) (s1 c1) hc1
      refine ⟨.int (w - 3), c2, ?_, hc2, .inr (.inl ⟨_, rfl⟩)⟩
      rw [run_keep (d := d5) rfl rfl rfl]
      simp [d5, b5, e1, h0, h3, e2]
    · by_cases h4 : f = 3
      · obtain ⟨w, c2, e2, hc2, p2, q2⟩ := next_run (G := G) (k := k) (f := 3) rfl (m := 2) (by omega) (by omega) (s1 c1) hc1
        obtain ⟨w', c3, e3, hc3, p3, q3⟩ := next_run (G := G) (k := k) (f := 3) rfl (m := 2) (by omega) (by omega) (s1 c2) hc2
        rw [List.set_set] at e2 e3
        refine ⟨.int ((10 ^ 15 - w) * (1 - 2 * w')), c3, ?_, hc3, .inr (.inl ⟨_, rfl⟩)⟩
        rw [run_keep (d := d5) rfl rfl rfl]
        have hw : w = 0 ∨ w = 1 := by omega
        have hw' : w' = 0 ∨ w' = 1 := by omega
        rcases hw with rfl | rfl <;> rcases hw' with rfl | rfl <;> simp [d5, b5, e1, h0, h3, h4, e2, e3, cPow, cMul]
      · obtain ⟨w, c2, e2, hc2, p2, q2⟩ := next_run (G := G) (k := k) (f := 3) rfl (m := 4) (by omega) (by omega) (s1 c1) hc1
        rw [List.set_set] at e2
        obtain ⟨cnt, rfl⟩ := Int.eq_ofNat_of_zero_le p2
        obtain ⟨ts, c3, hc3, hl, ht, e3⟩ := chars_run k S n hn cnt (by omega) c2 hc2
        have hsum : (ts.map List.length).sum = cnt := by
          rw [List.map_congr_left (g := fun _ => 1) (fun t h => by obtain ⟨ch, rfl, _⟩ := ht t h; rfl), List.map_const', List.sum_replicate_nat, hl, Nat.mul_one]
        refine ⟨.str (joinTx [] ts), c3, ?_, hc3, .inr (.inr ⟨_, rfl, ?_, fun ch hch => ?_⟩)⟩
        · rw [run_keep (d := d5) rfl rfl rfl]
          simp [d5, b5, e1, h0, h3, h4, e2, e3, signs_run, wk_rngN (n := cnt) (by omega), hl, hsum, show cnt ≤ 16777216 by omega, join_map]
        · rw [joinTx_nil, List.length_flatten, hsum]; omega
        · rw [joinTx_nil] at hch
          obtain ⟨t, h1, h2⟩ := List.mem_flatten.mp hch
          obtain ⟨x, rfl, hx⟩ := ht t h1
          cases List.mem_singleton.mp h2
          exact hx
theorem key_tup (d : D) : ∃ ks, keyD d = .tup ks := by cases d <;> exact ⟨_, rfl⟩
abbrev inner : List St := [.asg (.var 6) (.call 0 [.var 4]), .asg (.var 7) (.call 0 [.var 5]), .ifs (.or (.not (.bf (.isinst [3]) false [.var 6])) (.not (.bf (.isinst [3]) false [.var 7]))) [.ret (.con (.bl false))] [], .ifs (.or (.cmp (.ne) (.cmp (.lt) (.var 6) (.var 7)) (.call 7 [.var 4, .var 5])) (.cmp (.ne) (.cmp (.eq) (.var 6) (.var 7)) (.call 8 [.var 4, .var 5]))) [.ret (.con (.bl false))] []]
theorem inner_run (a b : D) (ha : Vd a) (hb : Vd b) (z0 z1 z2 x6 x7 : Option Vl) (c : Cell) : exs G (run G 59) inner [z0, z1, z2, none, some (.d a), some (.d b), x6, x7, none, none, none, none] [c] = .nx [z0, z1, z2, none, some (.d a), some (.d b), some (.d (keyD a)), some (.d (keyD b)), none, none, none, none] [c] := by
  obtain ⟨ka, ea⟩ := key_tup a
  obtain ⟨kb, eb⟩ := key_tup b
  have h1 := key_lt a b ha hb
  have h2 := key_eq a b ha hb
  have h3 := key_alike a b ha hb
  have h4 := key_data 63 a ha
  have h5 := key_data 63 b hb
  rw [ea, eb] at h1 h2 h3
  rw [ea] at h4
  rw [eb] at h5
  have ho : ordOk (.tup ka) (.tup kb) = true := by unfold ordOk; rw [h3, h4, h5]; rfl
  simp [key_run 58 a ha, key_run 58 b hb, ea, eb, ho, h1, h2, h4, h5, bef_run 56 a b ha hb, eq_run 55 a b ha hb]
theorem loops_run (vs : List D) (hv : ∀ d ∈ vs, Vd d) (z0 z1 z2 : Option Vl) (c : Cell) (hz : z2 = some (.d (.lst vs))) : ∃ x4 x5 x6 x7, ex G (run G 59) (.fors (.var 4) (.seq) [.var 2] [.fors (.var 5) (.seq) [.var 2] inner]) [z0, z1, z2, none, none, none, none, none, none, none, none, none] [c] = .nx [z0, z1, z2, none, x4, x5, x6, x7, none, none, none, none] [c] := by
  subst hz
  have inn : ∀ (a : D), Vd a → ∀ x5 x6 x7, ∃ y5 y6 y7, exs G (run G 59) [.fors (.var 5) (.seq) [.var 2] inner] [z0, z1, some (.d (.lst vs)), none, some (.d a), x5, x6, x7, none, none, none, none] [c] = .nx [z0, z1, some (.d (.lst vs)), none, some (.d a), y5, y6, y7, none, none, none, none] [c] := fun a ha x5 x6 x7 => by
    obtain ⟨ρ', S', e, rfl, y5, y6, y7, rfl⟩ := fors_pre (b := exs G (run G 59) inner) (t := .var 5) (xs := vs.map .d) (fun pre ρ S => S = [c] ∧ ∃ x5 x6 x7, ρ = [z0, z1, some (.d (.lst vs)), none, some (.d a), x5, x6, x7, none, none, none, none])
      (fun pre v post h ρ S ⟨hS, x5, x6, x7, hρ⟩ => by
        subst hS hρ
        have hm : v ∈ vs.map .d := by rw [h]; simp
        obtain ⟨b, hb, rfl⟩ := List.mem_map.mp hm
        exact ⟨_, _, _, rfl, .inl (inner_run a b ha (hv b hb) _ _ _ _ _ c), rfl, _, _, _, rfl⟩) (ρ := [z0, z1, some (.d (.lst vs)), none, some (.d a), x5, x6, x7, none, none, none, none]) (S := [c]) ⟨rfl, _, _, _, rfl⟩
    refine ⟨y5, y6, y7, ?_⟩
    simp [e]
  obtain ⟨ρ', S', e, rfl, y4, y5, y6, y7, rfl⟩ := fors_pre (b := exs G (run G 59) [.fors (.var 5) (.seq) [.var 2] inner]) (t := .var 4) (xs := vs.map .d) (fun pre ρ S => S = [c] ∧ ∃ x4 x5 x6 x7, ρ = [z0, z1, some (.d (.lst vs)), none, x4, x5, x6, x7, none, none, none, none])
      (fun pre v post h ρ S ⟨hS, x4, x5, x6, x7, hρ⟩ => by
        subst hS hρ
        have hm : v ∈ vs.map .d := by rw [h]; simp
        obtain ⟨a, ha, rfl⟩ := List.mem_map.mp hm
        obtain ⟨y5, y6, y7, e⟩ := inn a (hv a ha) x5 x6 x7
        exact ⟨_, _, _, rfl, .inl e, rfl, _, _, _, _, rfl⟩) (ρ := [z0, z1, some (.d (.lst vs)), none, none, none, none, none, none, none, none, none]) (S := [c]) ⟨rfl, _, _, _, _, rfl⟩
  refine ⟨y4, y5, y6, y7, ?_⟩
  simp [e]
theorem row_run (vs : List D) (hv : ∀ d ∈ vs, Vd d) (hl : vs.length = 3) (n : Nat) (hn : n ≤ 3) (rs : List Vl) (c : Cell) (hc : DrawC c) : ∃ (ds : List D) (c' : Cell), DrawC c' ∧ ds.length = n ∧ (∀ d ∈ ds, Vd d) ∧ ∀ ρ : Env, (ρ[2]? = some (some (.d (.lst vs))) ∧ ρ[1]? = some (some (.p 0)) ∧ 3 < ρ.length) →
    turns (lcB G (run G 59) none (.ite (.call 3 [.var 1, .con (.int 2)]) (.call 5 [.var 1]) (.ix (.var 2) (.op (.mod) (.var 3) (.con (.int 3)))))) (.var 3) ρ ((List.range n).map fun (i : Nat) => .d (.int (i : Int))) [] [c, .lst rs] = .ok (ds.map .d) [c', .lst rs] := by
  obtain ⟨ys, S', ⟨c', rfl, hc'⟩, hl, hp, e⟩ := turns_all (f := lcB G (run G 59) none (.ite (.call 3 [.var 1, .con (.int 2)]) (.call 5 [.var 1]) (.ix (.var 2) (.op (.mod) (.var 3) (.con (.int 3)))))) (t := .var 3) (fun ρ => ρ[2]? = some (some (.d (.lst vs))) ∧ ρ[1]? = some (some (.p 0)) ∧ 3 < ρ.length)
    (fun S' => ∃ c, S' = [c, .lst rs] ∧ DrawC c) (fun v => ∃ d, v = .d d ∧ Vd d) (xs := (List.range n).map fun (i : Nat) => .d (.int (i : Int))) [] (S := [c, .lst rs])
    (fun v hv' S' ⟨c, hS, hc⟩ => by
      subst hS
      obtain ⟨j, hj, rfl⟩ := List.mem_map.mp hv'
      obtain ⟨w, c1, e1, hc1, p1, q1⟩ := next_run (G := G) (k := 58) (f := 3) rfl (m := 2) (by omega) (by omega) (S := [c, .lst rs]) (n := 0) rfl hc
      have hset : ∀ ρ : Env, (ρ[2]? = some (some (.d (.lst vs))) ∧ ρ[1]? = some (some (.p 0)) ∧ 3 < ρ.length) → (ρ.set 3 (some (.d (.int (j : Int)))))[2]? = some (some (.d (.lst vs))) ∧ (ρ.set 3 (some (.d (.int (j : Int)))))[1]? = some (some (.p 0)) ∧ (ρ.set 3 (some (.d (.int (j : Int)))))[3]? = some (some (.d (.int (j : Int)))) := fun ρ ⟨h1, h2, h3⟩ =>
        ⟨by rw [List.getElem?_set_ne (by decide), h1], by rw [List.getElem?_set_ne (by decide), h2], by rw [List.getElem?_set_self h3]⟩
      by_cases hw : w = 0
      · subst hw
        obtain ⟨a, b, d, rfl⟩ : ∃ a b d, vs = [a, b, d] := by
          match vs, hl with
          | [a, b, d], _ => exact ⟨a, b, d, rfl⟩
        have hj := List.mem_range.mp hj
        have hj3 : j = 0 ∨ j = 1 ∨ j = 2 := by omega
        rcases hj3 with rfl | rfl | rfl
        · refine ⟨.d a, [c1, .lst rs], ⟨c1, rfl, hc1⟩, ⟨_, rfl, hv _ (by simp)⟩, fun ρ hR => ⟨_, rfl, ?_⟩⟩
          simp [hR.1, hR.2.1, hR.2.2, e1]
        · refine ⟨.d b, [c1, .lst rs], ⟨c1, rfl, hc1⟩, ⟨_, rfl, hv _ (by simp)⟩, fun ρ hR => ⟨_, rfl, ?_⟩⟩
          simp [hR.1, hR.2.1, hR.2.2, e1]
        · refine ⟨.d d, [c1, .lst rs], ⟨c1, rfl, hc1⟩, ⟨_, rfl, hv _ (by simp)⟩, fun ρ hR => ⟨_, rfl, ?_⟩⟩
          simp [hR.1, hR.2.1, hR.2.2, e1]
      · obtain ⟨d, c2, e2, hc2, hd⟩ := value_run 57 [c1, .lst rs] 0 c1 rfl hc1
        refine ⟨.d d, [c2, .lst rs], ⟨c2, rfl, hc2⟩, ⟨_, rfl, hd⟩, fun ρ hR => ⟨_, rfl, ?_⟩⟩
        obtain ⟨h1, h2, h3⟩ := hset ρ hR
        have hw' : (w != 0) = true := by simp [hw]
        simp [h1, h2, h3, e1, e2, hw']) ⟨c, rfl, hc⟩ (by simp; omega)
  obtain ⟨ds, rfl, hd⟩ := all_d hp
  exact ⟨ds, c', hc', by simpa using hl, hd, e⟩
theorem isi3 (ks : List D) (S : Sto) : bIsi [3] (.d (.tup ks)) S = .ok (.d (.bl true)) S := by simp
theorem rest2 (vs : List D) (x0 x1 x2 x4 x5 x6 x7 x9 x10 : Option Vl) (xs ys : List D) (hx : ∀ d ∈ xs, Vd d) (hy : ∀ d ∈ ys, Vd d) (hl : xs.length ≤ 3) (he : ys.length = xs.length) (c : Cell) :
    outA [] (exs G (run G 59) (b10.drop 6) [x0, x1, x2, none, x4, x5, x6, x7, some (.p 1), x9, x10, none] [c, .lst [.d (.tup xs), .d (.tup ys)]]) = .ok (.d (.bl true)) [] := by
  have h1 := rowkey_run 57 xs hx (by omega) [c, .lst [.d (.tup xs), .d (.tup ys)]]
  have h2 := rowkey_run 57 ys hy (by omega) [c, .lst [.d (.tup xs), .d (.tup ys)]]
  have h3 := rowbef_run 54 xs ys hx hy (by omega) he [c, .lst [.d (.tup xs), .d (.tup ys)]]
  have h4 := rowbef_run 54 ys xs hy hx (by omega) he.symm [c, .lst [.d (.tup xs), .d (.tup ys)]]
  have h5 := row_lt xs ys hx hy he
  have h6 := row_eq xs ys hx hy he
  have h7 : alikeD (.tup (xs.map keyD)) (.tup (ys.map keyD)) = true := (row_alike xs ys hx hy).resolve_right (fun h => h he)
  have h8 := row_data xs hx
  have h9 := row_data ys hy
  have ho : ordOk (.tup (xs.map keyD)) (.tup (ys.map keyD)) = true := by unfold ordOk; rw [h7, h8, h9]; rfl
  cases r1 : rb xs ys <;> cases r2 : rb ys xs <;> rw [r1] at h3 h5 <;> rw [r2] at h4 <;> rw [r1, r2] at h6 <;>
    simp [b10, h1, h2, h3, h4, h5, h6, ho, h8, h9]
theorem law_true : ∀ ns : List Int, ns.length ≤ 63 → ∃ S', run G 60 10 [.d (.scr ns)] [] = .ok (.d (.bl true)) S' := by
  intro ns hns
  refine ⟨[], ?_⟩
  rw [run_alone (d := d10) rfl rfl rfl rfl]
  obtain ⟨c0, e0, hc0⟩ := draw_run (G := G) (k := 58) (f := 2) rfl ns (by omega) []
  obtain ⟨a, c1, e1, hc1, va⟩ := value_run 57 [c0] 0 c0 rfl hc0
  obtain ⟨b, c2, e2, hc2, vb⟩ := value_run 57 [c1] 0 c1 rfl hc1
  obtain ⟨d, c3, e3, hc3, vd⟩ := value_run 57 [c2] 0 c2 rfl hc2
  have hv : ∀ z ∈ [a, b, d], Vd z := fun z hz => by
    simp only [List.mem_cons, List.not_mem_nil, or_false] at hz
    rcases hz with rfl | rfl | rfl
    · exact va
    · exact vb
    · exact vd
  obtain ⟨x4, x5, x6, x7, e4⟩ := loops_run [a, b, d] hv (some (.d (.scr ns))) (some (.p 0)) (some (.d (.lst [a, b, d]))) c3 rfl
  obtain ⟨l, c4, e5, hc4, p4, q4⟩ := next_run (G := G) (k := 58) (f := 3) rfl (m := 4) (by omega) (by omega) (S := [c3, .lst []]) (n := 0) rfl hc3
  obtain ⟨n, rfl⟩ := Int.eq_ofNat_of_zero_le p4
  obtain ⟨xs, c5, hc5, lx, vx, e6⟩ := row_run [a, b, d] hv rfl n (by omega) [] c4 hc4
  obtain ⟨ys, c6, hc6, ly, vy, e7⟩ := row_run [a, b, d] hv rfl n (by omega) [.d (.tup xs)] c5 hc5
  have fin := rest2 [a, b, d] (some (.d (.scr ns))) (some (.p 0)) (some (.d (.lst [a, b, d]))) x4 x5 x6 x7 (some (.d (.int n))) (some (.d (.int 1))) xs ys vx vy (by omega) (by omega) c6
  rw [show d10.body = b10 from rfl, exs_split 2 b10, show b10.drop 2 = (.fors (.var 4) (.seq) [.var 2] [.fors (.var 5) (.seq) [.var 2] inner]) :: b10.drop 3 from rfl]
  generalize hr : b10.drop 3 = r
  have w3 : ∀ S, walkF .range [.d (.int 3)] S = .ok ([.d (.int 0), .d (.int 1), .d (.int 2)], none) S := fun S => by rw [wk_rng (by omega) (by omega)]; rfl
  have w2 : ∀ S, walkF .range [.d (.int 2)] S = .ok ([.d (.int 0), .d (.int 1)], none) S := fun S => by rw [wk_rng (by omega) (by omega)]; rfl
  simp [d10, b10, e0, w3, turns, e1, e2, e3, -ex_fors]
  rw [e4]
  subst hr
  simp only [seq_nx']
  rw [exs_split 3 (b10.drop 3), show (b10.drop 3).drop 3 = b10.drop 6 from rfl]
  generalize hr : b10.drop 6 = r
  simp [b10, e5, w2, fors_var, fors_none, forNx_nx, wk_rngN (n := n) (by omega), e6, e7, lx, ly, show n ≤ 16777216 by omega, bTuple, mAppend, listOf]
  subst hr
  exact fin
end Law
open PySem PySem.W PyProof.Rows in
set_option maxRecDepth 100000 in
set_option maxHeartbeats 0 in
theorem PySem.Challenge.cw_lineworks_k50_values_are_ordered_holds : PySem.Challenge.rw_lineworks_k50_values_are_ordered.Holds := by
  w_on; o_law; k_head; (case hw => w_witness2)
  k_fill
  refine Z.walk (l := PySem.Challenge.rw_lineworks_k50_values_are_ordered) rfl rfl Z.room60 (fun w h Y => PySem.W.kIn_of Y) ?F
  case F =>
    intro w mg fa h KX GN hmg
    refine' Law.all_mk KX GN hmg ?a0 ?l0 ?e0 ?p0 ?a1 ?l1 ?e1 ?p1 ?a2 ?l2 ?e2 ?p2 ?a3 ?l3 ?e3 ?p3 ?a4 ?l4 ?e4 ?p4 ?a5 ?l5 ?e5 ?p5 ?a6 ?l6 ?e6 ?p6 ?a7 ?l7 ?e7 ?p7 ?a8 ?l8 ?e8 ?p8 ?a9 ?l9 ?e9 ?p9 ?a10 ?l10 ?e10 ?p10 ?z0 ?z1 ?z2 ?z3 ?z4 ?z5 ?z6 ?z7 ?z8 Law.law_true
    (case a0 => k_is)
    (case l0 => k_is)
    (case e0 => k_is)
    (case p0 => k_is)
    (case a1 => k_is)
    (case l1 => k_is)
    (case e1 => k_is)
    (case p1 => k_is)
    (case a2 => k_is)
    (case l2 => k_is)
    (case e2 => k_is)
    (case p2 => k_is)
    (case a3 => k_is)
    (case l3 => k_is)
    (case e3 => k_is)
    (case p3 => k_is)
    (case a4 => k_is)
    (case l4 => k_is)
    (case e4 => k_is)
    (case p4 => k_is)
    (case a5 => k_is)
    (case l5 => k_is)
    (case e5 => k_is)
    (case p5 => k_is)
    (case a6 => k_is)
    (case l6 => k_is)
    (case e6 => k_is)
    (case p6 => k_is)
    (case a7 => k_is)
    (case l7 => k_is)
    (case e7 => k_is)
    (case p7 => k_is)
    (case a8 => k_is)
    (case l8 => k_is)
    (case e8 => k_is)
    (case p8 => k_is)
    (case a9 => k_is)
    (case l9 => k_is)
    (case e9 => k_is)
    (case p9 => k_is)
    (case a10 => k_is)
    (case l10 => k_is)
    (case e10 => k_is)
    (case p10 => k_is)
    (case z0 => k_is)
    (case z1 => k_is)
    (case z2 => k_is)
    (case z3 => k_is)
    (case z4 => k_is)
    (case z5 => k_is)
    (case z6 => k_is)
    (case z7 => k_is)
    (case z8 => k_is)
#print axioms PySem.Challenge.cw_lineworks_k50_values_are_ordered_holds

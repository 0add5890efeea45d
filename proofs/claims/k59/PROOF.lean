import PyProof.Rows.All
import Wide.All
import OpenK.AllK
import Wide.FinOn
import HandS.ForMost
import HandS.Flow
import HandS.Style
import HandS.IsInst
import HandS.StrMore
import HandS.Deep
import HandS.Replace
import HandS.More
import HandS.DictComp
import HandS.CallLocal
import HandS.Strs
import HandS.SetBool
import KE.DataCmp
import KE.SortData
import PySem.Challenge.RW_lineworks_k59_tables_tell_conditions
set_option Elab.async false
set_option linter.all false
section

/-! Z1: a small language of plain values: what a Python text of this program computes, without a heap. -/
namespace Z
open PySem L2

abbrev Tx := List Nat

/-- plain data -/
inductive D where
  | non | bl (b : Bool) | int (i : Int) | str (s : Tx) | fn (f : Nat)
  | tup (xs : List D) | lst (xs : List D) | scr (ns : List Int) | dct (t : Bool) (ks vs : List D) | ins (c : Nat) (ns : List Nat) (vs : List D)
  /-- a dict of the module's top with text keys -/
  | wd (ks : List Tx) (vs : List D)
  deriving Inhabited, Repr

/-- a value: plain data, or the number of a cell -/
inductive Vl where
  | d (x : D) | p (n : Nat)
  deriving Inhabited, Repr

/-- what stands in a cell -/
inductive Cell where
  | dead | lst (xs : List Vl) | dct (t : Bool) (kvs : List (D × Vl)) | ins (c : Nat) (fs : List (Nat × Vl))
  deriving Inhabited, Repr

abbrev Sto := List Cell
abbrev Env := List (Option Vl)
structure Exn where
  cls : Nat
  fs : List (Nat × D)
  deriving Inhabited, Repr

inductive Res (α : Type) where
  | ok (a : α) (S : Sto) | exc (e : Exn) (S : Sto) | bad
  deriving Inhabited, Repr
def Res.bind {α β : Type} (r : Res α) (f : α → Sto → Res β) : Res β :=
  match r with
  | .ok a S => f a S
  | .exc e S => .exc e S
  | .bad => .bad

inductive Op where
  | add | sub | mul | fdiv | mod | pow | shl
  deriving Inhabited, Repr, DecidableEq
inductive Cm where
  | eq | ne | lt | le | gt | ge | is | isn | mem | nmem
  deriving Inhabited, Repr, DecidableEq
/-- built-in functions -/
inductive Bf where
  | len | abs | int | str | list | tuple | sum | min | max | any | all | sorted | range | set | dict | repr | sset | gcd | isinst (ts : List Nat)
  deriving Inhabited, Repr, DecidableEq
/-- built-in methods -/
inductive Bm where
  | append | extend | pop | join | count | rfind | startswith | replace | lstrip | split | index | indexL | indexS | get | items | setdefault
  deriving Inhabited, Repr, DecidableEq
/-- what is walked -/
inductive Ik where
  | seq | range | rev | enum | zip | items
  deriving Inhabited, Repr, DecidableEq
/-- sorted, min, max by key= -/
inductive Kf where
  | sorted | min2 | max2 | min1 | max1
  deriving Inhabited, Repr, DecidableEq
inductive Tg where
  | var (i : Nat) | tup (ts : List Tg)
  deriving Inhabited, Repr

inductive Ex where
  | var (i : Nat)
  | con (x : D)
  | glob (g : Nat)
  | op (o : Op) (a b : Ex)
  | neg (a : Ex)
  | cmp (c : Cm) (a b : Ex)
  | chain (c c' : Cm) (a b e : Ex)
  | and (a b : Ex)
  | or (a b : Ex)
  | not (a : Ex)
  | ite (c a b : Ex)
  | tup (es : List Ex)
  | lst (cell : Bool) (es : List Ex)
  | dct (t cell : Bool) (kvs : List Ex)
  | ix (a b : Ex)
  | sl (a : Ex) (lo hi : Option Ex)
  | fld (a : Ex) (f : Nat) (cs : List Nat)
  | call (f : Nat) (as : List Ex)
  | callv (i : Nat) (as : List Ex)
  | meth (o : Ex) (tab : List (Nat × Nat)) (as : List Ex)
  | make (c f : Nat) (as : List Ex)
  | bf (b : Bf) (cell : Bool) (as : List Ex)
  | bm (m : Bm) (o : Ex) (as : List Ex)
  | lc (cell : Bool) (e : Ex) (t : Tg) (own : List Nat) (k : Ik) (its : List Ex) (c : Option Ex)
  | dc (cell : Bool) (e v : Ex) (t : Tg) (own : List Nat) (k : Ik) (its : List Ex) (c : Option Ex)
  | sc (cell : Bool) (e : Ex) (t : Tg) (own : List Nat) (k : Ik) (its : List Ex) (c : Option Ex)
  | kf (b : Kf) (f : Nat) (cell : Bool) (as : List Ex)
  deriving Inhabited, Repr

inductive St where
  | asg (t : Tg) (e : Ex)
  | sub (o i e : Ex)
  | fld (o : Ex) (f : Nat) (cs : List Nat) (e : Ex)
  | fldaug (a : Ex) (f : Nat) (cs : List Nat) (o : Op) (e : Ex)
  | daug (d k : Ex) (o : Op) (e : Ex)
  | par (i j : Nat) (a b : Ex)
  | aug (i : Nat) (o : Op) (e : Ex)
  | expr (e : Ex)
  | ret (e : Ex)
  | ifs (c : Ex) (a b : List St)
  | whl (c : Ex) (b : List St)
  | fors (t : Tg) (k : Ik) (its : List Ex) (b : List St)
  | brk | cnt | pass
  | frz (xs : List Nat)
  deriving Inhabited, Repr

/-- a def: the number of its slots, its parameters first -/
structure Df where
  slots : Nat
  params : Nat
  body : List St
  keep : Bool
  alone : Bool := false
  init : Bool := false
  deriving Inhabited, Repr

/-- what stands at the module's level -/
structure Gm where
  con : Nat → D
  defs : Nat → Option Df
  fuel : Nat

/-- a def that can be called by a name that holds it -/
def Gm.callable (G : Gm) (f : Nat) : Bool := match G.defs f with
  | some d => !d.init
  | none => false
/-! ### operations -/
mutual
/-- bools as the ints that they count as -/
def nz : D → D
  | .bl b => .int (if b then 1 else 0)
  | .tup xs => .tup (nzs xs)
  | .lst xs => .lst (nzs xs)
  | x => x
def nzs : List D → List D
  | [] => []
  | x :: xs => nz x :: nzs xs
end
mutual
/-- made of None, bools, ints, texts, lists, tuples alone, not too deep -/
def isData : Nat → D → Bool
  | _, .non => true
  | _, .bl _ => true
  | _, .int _ => true
  | _, .str s => s.all fun c => decide (c < 1114112)
  | n, .tup xs => match n with
    | 0 => false
    | n + 1 => isDatas n xs
  | n, .lst xs => match n with
    | 0 => false
    | n + 1 => isDatas n xs
  | _, _ => false
def isDatas : Nat → List D → Bool
  | _, [] => true
  | n, x :: xs => isData n x && isDatas n xs
end
def isFlat : D → Bool
  | .non => true
  | .bl _ => true
  | .int _ => true
  | .str _ => true
  | _ => false
mutual
def D.beq : D → D → Bool
  | .non, y => match y with | .non => true | _ => false
  | .bl a, y => match y with | .bl b => a == b | _ => false
  | .int a, y => match y with | .int b => decide (a = b) | _ => false
  | .str a, y => match y with | .str b => decide (a = b) | _ => false
  | .fn a, y => match y with | .fn b => a == b | _ => false
  | .tup a, y => match y with | .tup b => D.beqs a b | _ => false
  | .lst a, y => match y with | .lst b => D.beqs a b | _ => false
  | .scr a, y => match y with | .scr b => decide (a = b) | _ => false
  | .dct t a c, y => match y with | .dct u b d => t == u && D.beqs a b && D.beqs c d | _ => false
  | .ins c n a, y => match y with | .ins c' n' b => c == c' && decide (n = n') && D.beqs a b | _ => false
  | .wd a c, y => match y with | .wd b d => decide (a = b) && D.beqs c d | _ => false
def D.beqs : List D → List D → Bool
  | [], y => match y with | [] => true | _ => false
  | x :: xs, z => match z with | y :: ys => D.beq x y && D.beqs xs ys | _ => false
end
/-- Python's == on data -/
def eqv (x y : D) : Bool := D.beq (nz x) (nz y)

mutual
/-- as the library's own plain data -/
def toPy : D → PyData
  | .non => .none
  | .bl b => .bool b
  | .int i => .int i
  | .str s => .str ⟨s.toArray⟩
  | .tup xs => .tuple (toPys xs)
  | .lst xs => .list (toPys xs)
  | _ => .none
def toPys : List D → List PyData
  | [] => []
  | x :: xs => toPy x :: toPys xs
end
/-- two data that Python's < can hold against each other, place by place -/
def alikeD (a b : D) : Bool := PySem.W.alike (toPy a) (toPy b)
def ltDt (a b : D) : Bool := PySem.W.dataLt (toPy a) (toPy b)
def noneD : D → Bool
  | .non => true
  | _ => false
def ordOk (a b : D) : Bool := isData 64 a && isData 64 b && alikeD a b && !noneD a
def isTup1 : D → Bool
  | .tup (_ :: _) => true
  | _ => false
def isTup0 : D → Bool
  | .tup _ => true
  | _ => false
/-- what sorted takes -/
def sortOk (ds : List D) : Bool := ds.all (fun a => isData 64 a && ds.all fun b => alikeD a b) && (ds.all isTup1 || ds.all fun d => !noneD d && !isTup0 d)
def leDt (a b : D) : Bool := !ltDt b a

def most : Nat := 16777216

def cut {α : Type} (xs : List α) (lo hi : Option Int) : List α := (xs.drop (HT.sIx xs.length 0 lo)).take (HT.sIx xs.length xs.length hi - HT.sIx xs.length 0 lo)

/-- the items of a list or a tuple, also of one in a cell -/
def seqOf (v : Vl) (S : Sto) : Option (List Vl) :=
  match v with
  | .d (.lst xs) => some (xs.map .d)
  | .d (.tup xs) => some (xs.map .d)
  | .d (.scr ns) => some (ns.map fun i => .d (.int i))
  | .p n => match S[n]? with
    | some (.lst xs) => some xs
    | _ => none
  | _ => none
def listOf (v : Vl) (S : Sto) : Option (List Vl) :=
  match v with
  | .d (.lst xs) => some (xs.map .d)
  | .p n => match S[n]? with
    | some (.lst xs) => some xs
    | _ => none
  | _ => none
def Vl.pure? : Vl → Option D
  | .d x => some x
  | .p _ => none
def pures : List Vl → Option (List D)
  | [] => some []
  | v :: vs => match v, pures vs with
    | .d x, some xs => some (x :: xs)
    | _, _ => none

def cMul (i j : Int) : Bool := (decide (-(2 ^ 64) < i) && decide (i < 2 ^ 64)) || (decide (-(2 ^ 64) < j) && decide (j < 2 ^ 64))
def cPow (i j : Int) : Bool := decide (0 ≤ j) && decide (j ≤ 1000000) && decide (i.natAbs < 2 ^ 64)

/-- two ints that bear C -/
def opI (C : Int → Int → Bool) (g : Int → Int → Int) (x y : Vl) (S : Sto) : Res Vl :=
  match x with
  | .d (.int i) => match y with
    | .d (.int j) => if C i j then .ok (.d (.int (g i j))) S else .bad
    | _ => .bad
  | _ => .bad
def catL (x y : Vl) (S : Sto) : Res Vl :=
  match listOf x S, listOf y S with
    | some a, some b => match pures a, pures b with
      | some a, some b => if decide (a.length + b.length ≤ most) then .ok (.d (.lst (a ++ b))) S else .bad
      | _, _ => .bad
    | _, _ => .bad
def opAdd (x y : Vl) (S : Sto) : Res Vl :=
  match x with
  | .d (.int i) => match y with
    | .d (.int j) => .ok (.d (.int (i + j))) S
    | _ => .bad
  | .d (.str a) => match y with
    | .d (.str b) => if decide (a.length + b.length ≤ most) then .ok (.d (.str (a ++ b))) S else .bad
    | _ => .bad
  | .d (.tup a) => match y with
    | .d (.tup b) => if !a.isEmpty && decide (a.length + b.length ≤ most) then .ok (.d (.tup (a ++ b))) S else .bad
    | _ => .bad
  | x => catL x y S
def repL (x : Vl) (k : Int) (S : Sto) : Res Vl :=
  match listOf x S with
  | some a => match pures a with
    | some a => if decide (-(2 ^ 63) ≤ k) && decide (k < 2 ^ 63) && decide (a.length * k.toNat ≤ most) then .ok (.d (.lst (List.replicate k.toNat a).flatten)) S else .bad
    | none => .bad
  | none => .bad
def opMul (x y : Vl) (S : Sto) : Res Vl :=
  match y with
  | .d (.int j) => match x with
    | .d (.int i) => if cMul i j then .ok (.d (.int (i * j))) S else .bad
    | x => repL x j S
  | _ => .bad
def binop (o : Op) (x y : Vl) (S : Sto) : Res Vl :=
  match o with
  | .add => opAdd x y S
  | .sub => opI (fun _ _ => true) (fun i j => i - j) x y S
  | .mul => opMul x y S
  | .fdiv => opI (fun _ j => decide (0 < j) && decide (j < 1073741824)) (fun i j => i / j) x y S
  | .mod => opI (fun _ j => decide (0 < j)) (fun i j => i % j) x y S
  | .pow => opI cPow (fun i j => i ^ j.toNat) x y S
  | .shl => opI cPow (fun i j => i * 2 ^ j.toNat) x y S

def isNone : Vl → Bool
  | .d .non => true
  | _ => false
/-- data, also of a list in a cell -/
def dataOf (v : Vl) (S : Sto) : Option D :=
  match v with
  | .d x => some x
  | .p n => match S[n]? with
    | some (.lst xs) => (pures xs).map .lst
    | _ => none
def eqOk (a b : D) : Bool := (isFlat a && isFlat b) || (isData 64 a && isData 64 b)
def flatKey : D → Bool
  | .int _ => true
  | .str _ => true
  | _ => false
/-- a key of a dict of ints and texts; of one of tuples of these -/
def keyOk (t : Bool) : D → Bool
  | .int _ => !t
  | .str _ => !t
  | .tup xs => t && xs.all flatKey
  | _ => false
def kvFind {α : Type} (kvs : List (D × α)) (k : D) : Option α := (kvs.find? fun kv => eqv kv.1 k).map (·.2)
def kvPut {α : Type} (kvs : List (D × α)) (k : D) (v : α) : List (D × α) :=
  if kvs.any (fun kv => eqv kv.1 k) then kvs.map (fun kv => if eqv kv.1 k then (kv.1, v) else kv) else kvs ++ [(k, v)]
/-- what a dict of the module's top has at a text -/
def wdFind {α : Type} (ks : List Tx) (vs : List α) (z : Tx) : Option α := ((ks.zip vs).find? fun p => decide (p.1 = z)).map (·.2)
def memFlat (x : D) (ds : List D) : Option Bool := if isFlat x && ds.all isFlat then some (ds.any fun e => eqv e x) else none
def contains (x y : Vl) (S : Sto) : Option Bool :=
  match x with
  | .p _ => none
  | .d x => match seqOf y S with
    | some xs => match pures xs with
      | some ds => match memFlat x ds with
        | some b => some b
        | none => if (listOf y S).isSome && isData 64 x && isData 64 (.lst ds) then some (ds.any fun e => eqv e x) else none
      | none => none
    | none => match y with
      | .d (.str z) => match x with
        | .str [c] => some (decide (c ∈ z))
        | _ => none
      | _ => none
/-- texts by code points -/
def ltTx (a b : Tx) : Bool := decide (a < b)
mutual
/-- Python's < on ints, texts, tuples, lists of these -/
def ltD : D → D → Option Bool
  | .int i, .int j => some (decide (i < j))
  | .str a, .str b => some (ltTx a b)
  | .tup a, .tup b => ltDs a b
  | .lst a, .lst b => ltDs a b
  | _, _ => none
def ltDs : List D → List D → Option Bool
  | [], [] => some false
  | [], _ :: _ => some true
  | _ :: _, [] => some false
  | x :: xs, y :: ys => if eqv x y then ltDs xs ys else ltD x y
end
def cEqv (neg : Bool) (x y : Vl) (S : Sto) : Res Vl :=
  match dataOf x S, dataOf y S with
    | some a, some b => if eqOk a b then .ok (.d (.bl (if neg then !eqv a b else eqv a b))) S else .bad
    | _, _ => .bad
/-- ints, texts -/
def cOrd (f : Int → Int → Bool) (g : Tx → Tx → Bool) (h : D → D → Bool) (x y : Vl) (S : Sto) : Res Vl :=
  match x with
  | .d (.tup a) => match y with
    | .d (.tup b) => if ordOk (.tup a) (.tup b) then .ok (.d (.bl (h (.tup a) (.tup b)))) S else .bad
    | _ => .bad
  | .d (.lst a) => match y with
    | .d (.lst b) => if ordOk (.lst a) (.lst b) then .ok (.d (.bl (h (.lst a) (.lst b)))) S else .bad
    | _ => .bad
  | .d (.int i) => match y with
    | .d (.int j) => .ok (.d (.bl (f i j))) S
    | _ => .bad
  | .d (.str i) => match y with
    | .d (.str j) => .ok (.d (.bl (g i j))) S
    | _ => .bad
  | _ => .bad
def cIs (neg : Bool) (x y : Vl) (S : Sto) : Res Vl :=
  match y with
    | .d .non => .ok (.d (.bl (if neg then !isNone x else isNone x))) S
    | .d (.bl b) => match x with
      | .d (.bl a) => .ok (.d (.bl (if neg then !decide (a = b) else decide (a = b)))) S
      | _ => .bad
    | _ => .bad
/-- a key in a dict -/
def inDct (x y : Vl) (S : Sto) : Option Bool :=
  match x with
  | .p _ => none
  | .d k => match y with
    | .d (.dct t ks vs) => if keyOk t k && ks.length == vs.length then some (kvFind (ks.zip vs) k).isSome else none
    | .d (.wd ks vs) => match k with
      | .str z => some (wdFind ks vs z).isSome
      | _ => none
    | .p n => match S[n]? with
      | some (.dct t kvs) => if keyOk t k then some (kvFind kvs k).isSome else none
      | _ => none
    | _ => none
def inAny (x y : Vl) (S : Sto) : Option Bool := match inDct x y S with
  | some b => some b
  | none => contains x y S
def cMem (neg : Bool) (x y : Vl) (S : Sto) : Res Vl :=
  match inAny x y S with
  | some b => .ok (.d (.bl (if neg then !b else b))) S
  | none => .bad
def cmpop (c : Cm) (x y : Vl) (S : Sto) : Res Vl :=
  match c with
  | .eq => cEqv false x y S
  | .ne => cEqv true x y S
  | .lt => cOrd (fun i j => decide (i < j)) ltTx ltDt x y S
  | .gt => cOrd (fun i j => decide (j < i)) (fun a b => ltTx b a) (fun a b => ltDt b a) x y S
  | .le => cOrd (fun i j => decide (i ≤ j)) (fun a b => !ltTx b a) (fun a b => !ltDt b a) x y S
  | .ge => cOrd (fun i j => decide (j ≤ i)) (fun a b => !ltTx a b) (fun a b => !ltDt a b) x y S
  | .is => cIs false x y S
  | .isn => cIs true x y S
  | .mem => cMem false x y S
  | .nmem => cMem true x y S

def truthy (v : Vl) (S : Sto) : Option Bool :=
  match v with
  | .d .non => some false
  | .d (.bl b) => some b
  | .d (.int i) => some (i != 0)
  | .d (.str s) => if decide (s.length ≤ most) then some ((s.length : Int) != 0) else none
  | .d (.lst xs) => some (!xs.isEmpty)
  | .d (.tup xs) => some (!xs.isEmpty)
  | .d (.dct t ks vs) => if !t && ks.length == vs.length then some (!ks.isEmpty) else none
  | .p n => match S[n]? with
    | some (.lst xs) => some (!xs.isEmpty)
    | some (.dct t kvs) => if !t then some (!kvs.isEmpty) else none
    | _ => none
  | _ => none

def index (x i : Vl) (S : Sto) : Res Vl :=
  match x, i with
  | .d (.lst xs), .d (.int i) => match atI xs i with
    | some y => .ok (.d y) S
    | none => .bad
  | .d (.tup xs), .d (.int i) => match atI xs i with
    | some y => .ok (.d y) S
    | none => .bad
  | .d (.str xs), .d (.int i) => if decide (xs.length ≤ most) then (match atI xs i with
    | some c => .ok (.d (.str [c])) S
    | none => .bad) else .bad
  | .d (.dct t ks vs), .d k => if keyOk t k then (match kvFind (ks.zip vs) k with
    | some y => .ok (.d y) S
    | none => .bad) else .bad
  | .d (.wd ks vs), .d (.str z) => match wdFind ks vs z with
    | some y => .ok (.d y) S
    | none => .bad
  | .p n, .d k => match S[n]? with
    | some (.lst xs) => match k with
      | .int i => match atI xs i with
        | some y => .ok y S
        | none => .bad
      | _ => .bad
    | some (.dct t kvs) => if keyOk t k then (match kvFind kvs k with
      | some y => .ok y S
      | none => .bad) else .bad
    | _ => .bad
  | _, _ => .bad
def sliceL (x : Vl) (lo hi : Option Int) (S : Sto) : Res Vl :=
  match listOf x S with
    | some a => match pures a with
      | some a => .ok (.d (.lst (cut a lo hi))) S
      | none => .bad
    | none => .bad
def slice (x : Vl) (lo hi : Option Int) (S : Sto) : Res Vl :=
  match x with
  | .d (.str s) => if decide (s.length ≤ most) then .ok (.d (.str (cut s lo hi))) S else .bad
  | .d (.tup xs) => if !(HT.sIx xs.length 0 lo == 0 && HT.sIx xs.length xs.length hi == xs.length) then .ok (.d (.tup (cut xs lo hi))) S else .bad
  | x => sliceL x lo hi S
def kwFind {α : Type} (fs : List (Nat × α)) (f : Nat) : Option α := (fs.find? fun p => p.1 == f).map (·.2)
def kwPut {α : Type} : List (Nat × α) → Nat → α → List (Nat × α)
  | [], f, v => [(f, v)]
  | (g, x) :: r, f, v => if g = f then (g, v) :: r else (g, x) :: kwPut r f v
def field (x : Vl) (f : Nat) (cs : List Nat) (S : Sto) : Res Vl :=
  match x with
  | .p n => match S[n]? with
    | some (.ins c fs) => if cs.contains c then (match kwFind fs f with
      | some v => .ok v S
      | none => .bad) else .bad
    | _ => .bad
  | .d (.ins c ns vs) => if cs.contains c then (match kwFind (ns.zip vs) f with
    | some v => .ok (.d v) S
    | none => .bad) else .bad
  | _ => .bad
/-- the class of an instance, if it has no field of the name -/
def clsOf (x : Vl) (S : Sto) : Option Nat :=
  match x with
  | .p n => match S[n]? with
    | some (.ins c _) => some c
    | _ => none
  | .d (.ins c _ _) => some c
  | _ => none

/-- a new list, in a cell or as data -/
def newList (cell : Bool) (vs : List Vl) (S : Sto) : Res Vl :=
  if decide (vs.length ≤ most) then
    if cell then .ok (.p S.length) (S ++ [.lst vs])
    else match pures vs with
      | some ds => .ok (.d (.lst ds)) S
      | none => .bad
  else .bad

/-- a new dict -/
def newDct (t cell : Bool) (kvs : List (D × Vl)) (S : Sto) : Res Vl :=
  if cell then .ok (.p S.length) (S ++ [.dct t kvs])
  else match pures (kvs.map (·.2)) with
    | some ds => .ok (.d (.dct t (kvs.map (·.1)) ds)) S
    | none => .bad
def kvMerge (kvs : List (D × Vl)) : List (D × Vl) := kvs.foldl (fun acc kv => kvPut acc kv.1 kv.2) []
/-- keys and values in turn -/
def pairUp : List Vl → Option (List (D × Vl))
  | [] => some []
  | .d k :: v :: r => (pairUp r).map ((k, v) :: ·)
  | _ => none
def dispDct (t cell : Bool) (vs : List Vl) (S : Sto) : Res Vl :=
  match vs with
  | [] => newDct t cell [] S
  | vs => match pairUp vs with
    | some kvs => if !t && kvs.all (fun kv => keyOk false kv.1) && decide (kvs.length ≤ 15) then newDct false cell (kvMerge kvs) S else .bad
    | none => .bad
/-- the types of isinstance: 0 int, 1 str, 2 list, 3 tuple, 4 bool; what a value's type is a part of -/
def typeOf (v : Vl) (S : Sto) : Option (List Nat) :=
  match v with
  | .d .non => some []
  | .d (.bl _) => some [0, 4]
  | .d (.int _) => some [0]
  | .d (.str _) => some [1]
  | .d (.lst _) => some [2]
  | .d (.tup _) => some [3]
  | .p n => match S[n]? with
    | some (.lst _) => some [2]
    | _ => none
  | _ => none
def isTypes (v : Vl) (S : Sto) (ts : List Nat) : Option Bool := (typeOf v S).map fun k => ts.any fun t => k.contains t
def intL : List D → Option (List Int)
  | [] => some []
  | .int i :: r => (intL r).map (i :: ·)
  | _ => none
def boolL : List D → Option (List Bool)
  | [] => some []
  | .bl i :: r => (boolL r).map (i :: ·)
  | _ => none
def textL : List D → Option (List Tx)
  | [] => some []
  | .str i :: r => (textL r).map (i :: ·)
  | _ => none
/-- the keys of a dict of ints and texts -/
def keysOf (v : Vl) (S : Sto) : Option (List D) :=
  match v with
  | .d (.dct t ks vs) => if !t && ks.length == vs.length then some ks else none
  | .p n => match S[n]? with
    | some (.dct t kvs) => if !t then some (kvs.map (·.1)) else none
    | _ => none
  | _ => none
def bLen (v : Vl) (S : Sto) : Res Vl :=
  match seqOf v S with
  | some xs => .ok (.d (.int xs.length)) S
  | none => match v with
    | .d (.str s) => if decide (s.length ≤ most) then .ok (.d (.int s.length)) S else .bad
    | v => match keysOf v S with
      | some ks => .ok (.d (.int ks.length)) S
      | none => .bad
def bInt (v : Vl) (S : Sto) : Res Vl :=
  match v with
  | .d (.int i) => .ok (.d (.int i)) S
  | .d (.bl b) => .ok (.d (.int (if b then 1 else 0))) S
  | _ => .bad
def bAbs (v : Vl) (S : Sto) : Res Vl :=
  match v with
  | .d (.int i) => .ok (.d (.int (if i < 0 then -i else i))) S
  | _ => .bad
def bList (cell : Bool) (v : Vl) (S : Sto) : Res Vl :=
  match seqOf v S with
  | some xs => newList cell xs S
  | none => match keysOf v S with
    | some ks => newList cell (ks.map .d) S
    | none => .bad
def bTuple (v : Vl) (S : Sto) : Res Vl :=
  match v with
  | .d (.tup xs) => .ok (.d (.tup xs)) S
  | _ => match listOf v S with
    | some xs => match pures xs with
      | some ds => .ok (.d (.tup ds)) S
      | none => .bad
    | none => .bad
/-- a list of plain values of one kind -/
def bOf {τ : Type} (f : List D → Option τ) (g : τ → D) (v : Vl) (S : Sto) : Res Vl :=
  match listOf v S with
  | some xs => match pures xs with
    | some ds => match f ds with
      | some t => .ok (.d (g t)) S
      | none => .bad
    | none => .bad
  | none => .bad
def bSorted (cell : Bool) (v : Vl) (S : Sto) : Res Vl :=
  match listOf v S with
  | some xs => match pures xs with
    | some ds => if sortOk ds then newList cell ((ds.mergeSort leDt).map .d) S else .bad
    | none => .bad
  | none => .bad
/-- ints in order, each once -/
def sins (x : Int) : List Int → List Int
  | [] => [x]
  | y :: l => if x < y then x :: y :: l else if x = y then y :: l else y :: sins x l
def ssort (ns : List Int) : List Int := ns.foldr sins []
/-- sorted(set(xs)) -/
def bSset (cell : Bool) (v : Vl) (S : Sto) : Res Vl :=
  match listOf v S with
  | some xs => match pures xs with
    | some ds => match intL ds with
      | some ns => if decide (ns.length < 1000) && decide ((ssort ns).length < 64) then newList cell ((ssort ns).map fun i => .d (.int i)) S else .bad
      | none => .bad
    | none => .bad
  | none => .bad
def bIsi (ts : List Nat) (v : Vl) (S : Sto) : Res Vl :=
  match isTypes v S ts with
  | some b => .ok (.d (.bl b)) S
  | none => .bad
def builtin (b : Bf) (cell : Bool) (as : List Vl) (S : Sto) : Res Vl :=
  match as with
  | [v] => match b with
    | .len => bLen v S
    | .abs => bAbs v S
    | .int => bInt v S
    | .list => bList cell v S
    | .tuple => bTuple v S
    | .sum => bOf intL (fun is => .int is.sum) v S
    | .any => bOf boolL (fun bs => .bl (bs.any id)) v S
    | .all => bOf boolL (fun bs => .bl (bs.all id)) v S
    | .isinst ts => bIsi ts v S
    | .sorted => bSorted cell v S
    | .sset => bSset cell v S
    | _ => .bad
  | [v, w] => match b with
    | .min => opI (fun _ _ => true) (fun i j => if j < i then j else i) v w S
    | .max => opI (fun _ _ => true) (fun i j => if j > i then j else i) v w S
    | _ => .bad
  | _ => .bad

def mk (s : Tx) : Str := ⟨s.toArray⟩
def un (s : Str) : Tx := s.cps.toList
def tx1 (f : Str → Str → D) (a b : Vl) (S : Sto) : Res Vl :=
  match a with
  | .d (.str a) => match b with
    | .d (.str b) => .ok (.d (f (mk a) (mk b))) S
    | _ => .bad
  | _ => .bad
def mAppend (o v : Vl) (S : Sto) : Res Vl :=
  match o with
  | .p n => match S[n]? with
    | some (.lst xs) => if decide (xs.length < most) then .ok (.d .non) (S.set n (.lst (xs ++ [v]))) else .bad
    | _ => .bad
  | _ => .bad
def mExtend (o v : Vl) (S : Sto) : Res Vl :=
  match o with
  | .p n => match S[n]? with
    | some (.lst xs) => match listOf v S with
      | some ys => if decide (xs.length + ys.length ≤ most) then .ok (.d .non) (S.set n (.lst (xs ++ ys))) else .bad
      | none => .bad
    | _ => .bad
  | _ => .bad
def mPop (o : Vl) (S : Sto) : Res Vl :=
  match o with
  | .p n => match S[n]? with
    | some (.lst xs) => match xs[xs.length - 1]? with
      | some v => .ok v (S.set n (.lst xs.dropLast))
      | none => .bad
    | _ => .bad
  | _ => .bad
def mIndex (o v : Vl) (S : Sto) : Res Vl :=
  match listOf o S, v with
  | some xs, .d y => match pures xs with
    | some ds => if isData 64 (.lst ds) && isData 64 y then (match ds.findIdx? (fun e => eqv e y) with
      | some j => .ok (.d (.int (j : Int))) S
      | none => .bad) else .bad
    | none => .bad
  | _, _ => .bad
/-- where a text stands first in a text -/
def sIndex (o v : Vl) (S : Sto) : Res Vl :=
  match o with
  | .d (.str a) => match v with
    | .d (.str b) => match Builtin.Str.occurrences (mk a) (mk b) 0 (mk a).length 1 with
      | i :: _ => .ok (.d (.int (i : Nat))) S
      | [] => .bad
    | _ => .bad
  | _ => .bad
def mJoin (o v : Vl) (S : Sto) : Res Vl :=
  match o with
  | .d (.str sep) => match listOf v S with
    | some xs => match pures xs with
      | some ds => match textL ds with
        | some ts => if decide ((ts.map List.length).sum + ts.length * sep.length ≤ most) then .ok (.d (.str (un (Txt.join (mk sep) (ts.map mk))))) S else .bad
        | none => .bad
      | none => .bad
    | none => .bad
  | _ => .bad
def isStr : Vl → Bool
  | .d (.str _) => true
  | _ => false
/-- what a dict has at a key -/
def getOf (o : Vl) (k : D) (S : Sto) : Option (Option Vl) :=
  match o with
  | .d (.dct t ks vs) => if keyOk t k && ks.length == vs.length then some ((kvFind (ks.zip vs) k).map .d) else none
  | .p n => match S[n]? with
    | some (.dct t kvs) => if keyOk t k then some (kvFind kvs k) else none
    | _ => none
  | _ => none
def isDct (o : Vl) (S : Sto) : Bool :=
  match o with
  | .d (.dct _ _ _) => true
  | .p n => match S[n]? with
    | some (.dct _ _) => true
    | _ => false
  | _ => false
def mGet (o k d : Vl) (S : Sto) : Res Vl :=
  match k with
  | .d k => match getOf o k S with
    | some (some v) => .ok v S
    | some none => .ok d S
    | none => .bad
  | _ => .bad
/-- the object is of the type whose method this is -/
def bmTy (m : Bm) (o : Vl) (S : Sto) : Bool :=
  match m with
  | .append => (listOf o S).isSome
  | .extend => (listOf o S).isSome
  | .pop => (listOf o S).isSome
  | .indexL => (listOf o S).isSome
  | .index => (listOf o S).isSome || isStr o
  | .get => isDct o S
  | _ => isStr o
def method (m : Bm) (o : Vl) (as : List Vl) (S : Sto) : Res Vl :=
  match as with
  | [] => match m with
    | .pop => mPop o S
    | _ => .bad
  | [v] => match m with
    | .append => mAppend o v S
    | .extend => mExtend o v S
    | .join => mJoin o v S
    | .indexL => mIndex o v S
    | .indexS => sIndex o v S
    | .index => if isStr o then sIndex o v S else mIndex o v S
    | .count => tx1 (fun a b => .int (Txt.count a b)) o v S
    | .rfind => tx1 (fun a b => .int (Txt.rfind a b)) o v S
    | .startswith => tx1 (fun a b => .bl (Txt.startswith a b)) o v S
    | .get => mGet o v (.d .non) S
    | _ => .bad
  | [v, w] => match m with
    | .get => mGet o v w S
    | _ => .bad
  | _ => .bad

/-- the items of what is walked, and the cell that is shut meanwhile -/
def lockOf (v : Vl) (S : Sto) : Option (Nat × Cell) := match v with
    | .p n => (S[n]?).map fun c => (n, c)
    | _ => none
def rngs (i j : Int) : List Vl := (List.range (j - i).toNat).map fun (n : Nat) => .d (.int (i + (n : Int)))
def inRng (i : Int) : Bool := decide (-(2 ^ 62) ≤ i) && decide (i < 2 ^ 62)
def rng2 (u v : Vl) : Option (List Vl) :=
  match u with
  | .d (.int i) => match v with
    | .d (.int j) => if inRng i && inRng j then some (rngs i j) else none
    | _ => none
  | _ => none
def walked (k : Ik) (as : List Vl) (S : Sto) : Option (List Vl × Option (Nat × Cell)) :=
  match as with
  | [v] => match k with
    | .seq => match v with
      | .d (.str s) => some (s.map fun c => .d (.str [c]), none)
      | v => (seqOf v S).map fun xs => (xs, lockOf v S)
    | .range => match v with
      | .d (.int n) => if decide (-(2 ^ 62) ≤ n) && decide (n < 2 ^ 62) then some ((List.range n.toNat).map fun (i : Nat) => .d (.int (i : Int)), none) else none
      | _ => none
    | .rev => (listOf v S).map fun xs => (xs.reverse, lockOf v S)
    | .enum => match listOf v S with
      | some xs => match pures xs with
        | some ds => some (((List.range ds.length).zip ds).map fun p => .d (.tup [.int (p.1 : Int), p.2]), lockOf v S)
        | none => none
      | none => none
    | _ => none
  | [u, v] => match k with
    | .range => (rng2 u v).map fun xs => (xs, none)
    | _ => none
  | _ => none

mutual
def bindT : Tg → Vl → Env → Option Env
  | .var i, v, ρ => some (ρ.set i (some v))
  | .tup ts, .d (.tup xs), ρ => bindTs ts xs ρ
  | .tup _, _, _ => none
def bindTs : List Tg → List D → Env → Option Env
  | [], [], ρ => some ρ
  | t :: ts, x :: xs, ρ => match bindT t (.d x) ρ with
    | some ρ' => bindTs ts xs ρ'
    | none => none
  | _, _, _ => none
end

def walkF (k : Ik) (vs : List Vl) (S : Sto) : Res (List Vl × Option (Nat × Cell)) := match walked k vs S with
  | some q => .ok q S
  | none => .bad
mutual
def Tg.slots : Tg → List Nat
  | .var i => [i]
  | .tup ts => Tg.slotss ts
def Tg.slotss : List Tg → List Nat
  | [] => []
  | t :: ts => t.slots ++ Tg.slotss ts
end

/-! ### expressions -/
def pick (v : Option Vl) (S : Sto) : Res Vl := match v with
  | some v => .ok v S
  | none => .bad
def tru (v : Vl) (S : Sto) : Res Bool := match truthy v S with
  | some b => .ok b S
  | none => .bad
def lock (S : Sto) : Option (Nat × Cell) → Sto
  | some (n, _) => S.set n .dead
  | none => S
def unlock (S : Sto) : Option (Nat × Cell) → Sto
  | some (n, c) => S.set n c
  | none => S
def wipe (ρ : Env) : List Nat → Env
  | [] => ρ
  | v :: vs => (wipe ρ vs).set v none
/-- the turns of a comprehension: what is made so far ahead of what is to come -/
def turns (f : Env → Sto → Res (Option Vl)) (t : Tg) (ρ : Env) : List Vl → List Vl → Sto → Res (List Vl)
  | [], acc, S => .ok acc S
  | v :: vs, acc, S => match bindT t v ρ with
    | none => .bad
    | some ρ' => match f ρ' S with
      | .ok (some y) S' => if decide (acc.length < most) then turns f t ρ vs (acc ++ [y]) S' else .bad
      | .ok none S' => turns f t ρ vs acc S'
      | _ => .bad

/-- the turns of a comprehension that puts what it makes into A -/
def turnsG {A B : Type} (put : A → B → Option A) (f : Env → Sto → Res (Option B)) (t : Tg) (ρ : Env) : List Vl → A → Sto → Res A
  | [], acc, S => .ok acc S
  | v :: vs, acc, S => match bindT t v ρ with
    | none => .bad
    | some ρ' => match f ρ' S with
      | .ok (some y) S' => match put acc y with
        | some acc' => turnsG put f t ρ vs acc' S'
        | none => .bad
      | .ok none S' => turnsG put f t ρ vs acc S'
      | _ => .bad
def putD (acc : List (D × Vl)) (y : D × Vl) : Option (List (D × Vl)) := if keyOk false y.1 && decide (acc.length < most) then some (kvPut acc y.1 y.2) else none
def putI (acc : List Int) (y : Vl) : Option (List Int) := match y with
  | .d (.int i) => if decide (acc.length < 63) then some (sins i acc) else none
  | _ => none
def keyVal (k v : Vl) (S : Sto) : Res (D × Vl) := match k with
  | .d k => .ok (k, v) S
  | .p _ => .bad

/-- behind __init__ -/
def made (n : Nat) (r : Res Vl) : Res Vl := match r with
  | .ok (.d .non) S => .ok (.p n) S
  | .exc e S => .exc e S
  | _ => .bad
/-- the keys of values, by a def that leaves all as it is -/
def keysBy (rc : Nat → List Vl → Sto → Res Vl) (f : Nat) (S : Sto) : List D → Option (List D)
  | [] => some []
  | d :: ds => match rc f [.d d] S with
    | .ok (.d k) _ => (keysBy rc f S ds).map (k :: ·)
    | _ => none
def keyed (rc : Nat → List Vl → Sto → Res Vl) (b : Kf) (f : Nat) (cell : Bool) (vs : List Vl) (S : Sto) : Res Vl := .bad
mutual
def ev (G : Gm) (rc : Nat → List Vl → Sto → Res Vl) : Ex → Env → Sto → Res Vl
  | .var i, ρ, S => pick ((ρ[i]?).bind id) S
  | .con x, _, S => .ok (.d x) S
  | .glob g, _, S => .ok (.d (G.con g)) S
  | .op o a b, ρ, S => (ev G rc a ρ S).bind fun x S => (ev G rc b ρ S).bind fun y S => binop o x y S
  | .neg a, ρ, S => (ev G rc a ρ S).bind fun x S => match x with
    | .d (.int i) => .ok (.d (.int (-i))) S
    | _ => .bad
  | .cmp c a b, ρ, S => (ev G rc a ρ S).bind fun x S => (ev G rc b ρ S).bind fun y S => cmpop c x y S
  | .chain c c' a b e, ρ, S => (ev G rc a ρ S).bind fun x S => (ev G rc b ρ S).bind fun y S => (cmpop c x y S).bind fun r S => match r with
    | .d (.bl true) => (ev G rc e ρ S).bind fun z S => cmpop c' y z S
    | .d (.bl false) => .ok (.d (.bl false)) S
    | _ => .bad
  | .and a b, ρ, S => (ev G rc a ρ S).bind fun x S => (tru x S).bind fun k S => if k then ev G rc b ρ S else .ok x S
  | .or a b, ρ, S => (ev G rc a ρ S).bind fun x S => (tru x S).bind fun k S => if k then .ok x S else ev G rc b ρ S
  | .not a, ρ, S => (ev G rc a ρ S).bind fun x S => (tru x S).bind fun k S => .ok (.d (.bl (!k))) S
  | .ite c a b, ρ, S => (ev G rc c ρ S).bind fun x S => (tru x S).bind fun k S => if k then ev G rc a ρ S else ev G rc b ρ S
  | .tup es, ρ, S => (evs G rc es ρ S).bind fun vs S => match pures vs with
    | some ds => if decide (ds.length ≤ most) then .ok (.d (.tup ds)) S else .bad
    | none => .bad
  | .lst cell es, ρ, S => (evs G rc es ρ S).bind fun vs S => newList cell vs S
  | .dct t cell kvs, ρ, S => (evs G rc kvs ρ S).bind fun vs S => dispDct t cell vs S
  | .ix a b, ρ, S => (ev G rc a ρ S).bind fun x S => (ev G rc b ρ S).bind fun y S => index x y S
  | .sl a lo hi, ρ, S => (ev G rc a ρ S).bind fun x S => (evo G rc lo ρ S).bind fun l S => (evo G rc hi ρ S).bind fun h S => slice x l h S
  | .fld a f cs, ρ, S => (ev G rc a ρ S).bind fun x S => field x f cs S
  | .call f as, ρ, S => (evs G rc as ρ S).bind fun vs S => rc f vs S
  | .callv i as, ρ, S => match (ρ[i]?).bind id with
    | some (.d (.fn f)) => if G.callable f then (evs G rc as ρ S).bind fun vs S => rc f vs S else .bad
    | _ => .bad
  | .meth o tab as, ρ, S => (ev G rc o ρ S).bind fun x S => match (clsOf x S).bind fun c => List.lookup c tab with
    | some f => (evs G rc as ρ S).bind fun vs S => rc f (x :: vs) S
    | none => .bad
  | .make c f as, ρ, S => (evs G rc as ρ S).bind fun vs S => made S.length (rc f (.p S.length :: vs) (S ++ [.ins c []]))
  | .kf b f cell as, ρ, S => (evs G rc as ρ S).bind fun vs S => keyed rc b f cell vs S
  | .bf b cell as, ρ, S => (evs G rc as ρ S).bind fun vs S => builtin b cell vs S
  | .bm m o as, ρ, S => (ev G rc o ρ S).bind fun x S => if bmTy m x S then (evs G rc as ρ S).bind fun vs S => method m x vs S else .bad
  | .lc cell e t own k its c, ρ, S => ((evs G rc its ρ S).bind (walkF k)).bind fun q S =>
    (turns (fun ρ S => (evc G rc c ρ S).bind fun b S => if b then (ev G rc e ρ S).bind fun y S => .ok (some y) S else .ok none S) t (wipe ρ own) q.1 [] (lock S q.2)).bind fun ys S => newList cell ys (unlock S q.2)
  | .dc cell e v t own k its c, ρ, S => ((evs G rc its ρ S).bind (walkF k)).bind fun q S =>
    (turnsG putD (fun ρ S => (evc G rc c ρ S).bind fun b S => if b then ((ev G rc e ρ S).bind fun y S => (ev G rc v ρ S).bind fun z S => keyVal y z S).bind fun kv S => .ok (some kv) S else .ok none S) t (wipe ρ own) q.1 [] (lock S q.2)).bind fun ys S => newDct false cell ys (unlock S q.2)
  | .sc cell e t own k its c, ρ, S => ((evs G rc its ρ S).bind (walkF k)).bind fun q S =>
    (turnsG putI (fun ρ S => (evc G rc c ρ S).bind fun b S => if b then (ev G rc e ρ S).bind fun y S => .ok (some y) S else .ok none S) t (wipe ρ own) q.1 [] (lock S q.2)).bind fun ys S => newList cell (ys.map fun i => .d (.int i)) (unlock S q.2)
def evs (G : Gm) (rc : Nat → List Vl → Sto → Res Vl) : List Ex → Env → Sto → Res (List Vl)
  | [], _, S => .ok [] S
  | e :: es, ρ, S => (ev G rc e ρ S).bind fun v S => (evs G rc es ρ S).bind fun vs S => .ok (v :: vs) S
def evo (G : Gm) (rc : Nat → List Vl → Sto → Res Vl) : Option Ex → Env → Sto → Res (Option Int)
  | none, _, S => .ok none S
  | some e, ρ, S => (ev G rc e ρ S).bind fun v S => match v with
    | .d (.int i) => .ok (some i) S
    | _ => .bad
def evc (G : Gm) (rc : Nat → List Vl → Sto → Res Vl) : Option Ex → Env → Sto → Res Bool
  | none, _, S => .ok true S
  | some e, ρ, S => (ev G rc e ρ S).bind tru
end
end Z
end

section

/-! Z2: from the text's trees to the small language; the defs' runs. -/
namespace Z
open PySem L2

/-- what is known where a piece of text stands -/
structure Cs where
  N : List Str
  sc : Scope
  gd : List (Str × Nat)
  gc : List (Str × Nat)
  gb : List Str
  fl : List (Str × (Nat × List Nat))
  mt : List (Str × List (Nat × Nat))
  cells : List Str
  frz : List (Nat × List Nat)
  retc : Bool := false
  cls : List (Str × (Nat × Nat)) := []
  fcells : List Str := []
  tdl : List Nat := []
  rv : List (Str × Nat) := []
  wr : Option Scope := none

def notStar : Expr → Bool
  | .Starred _ _ => false
  | _ => true
def findN (N : List Str) (x : Str) : Option Nat := N.findIdx? (· == x)
def visB (sc : Scope) (x : Str) : Bool := match sc.names.lookup x with
  | some .local => true
  | some .cell => true
  | some .free => true
  | _ => false
def locB (sc : Scope) (x : Str) : Bool := match sc.names.lookup x with
  | some .local => true
  | some .cell => true
  | _ => false
def ownB (sc : Option Scope) (x : Str) : Bool := match sc with
  | none => true
  | some sc => locB sc x
def glB (sc : Scope) (x : Str) : Bool := match sc.names.lookup x with
  | some .globalImplicit => true
  | _ => false
def cNm (C : Cs) (x : Str) : Option Nat := match findN C.N x with
  | some i => if visB C.sc x && !(x == ("__debug__" : Str)) && !(x == ("__classdict__" : Str)) then some i else none
  | none => none
def cOp : Operator → Option Op
  | .Add => some .add
  | .Sub => some .sub
  | .Mult => some .mul
  | .FloorDiv => some .fdiv
  | .Mod => some .mod
  | .Pow => some .pow
  | .LShift => some .shl
  | _ => none
def cCm : CmpOp → Option Cm
  | .Eq => some .eq
  | .NotEq => some .ne
  | .Lt => some .lt
  | .LtE => some .le
  | .Gt => some .gt
  | .GtE => some .ge
  | .Is => some .is
  | .IsNot => some .isn
  | .In => some .mem
  | .NotIn => some .nmem
def cTy (x : Str) : Option Nat :=
  if x == ("int" : Str) then some 0 else if x == ("str" : Str) then some 1 else if x == ("list" : Str) then some 2 else if x == ("tuple" : Str) then some 3 else if x == ("bool" : Str) then some 4 else none
def cBf (x : Str) : Option Bf :=
  if x == ("len" : Str) then some .len else if x == ("abs" : Str) then some .abs else if x == ("int" : Str) then some .int else if x == ("list" : Str) then some .list
  else if x == ("tuple" : Str) then some .tuple else if x == ("sum" : Str) then some .sum else if x == ("min" : Str) then some .min else if x == ("max" : Str) then some .max
  else if x == ("any" : Str) then some .any else if x == ("sorted" : Str) then some .sorted else if x == ("all" : Str) then some .all else none
/-- the name that an object goes by -/
def lastN : Expr → Option Str
  | .Name x _ => some x
  | .Attribute _ f _ => some f
  | .Call (.Attribute _ m _) _ _ _ => some m
  | _ => none
/-- the classes that an object of such a name can have -/
def rcvOk (C : Cs) (o : Expr) (c : Nat) : Bool := match (lastN o).bind fun x => C.rv.lookup x with
  | some c' => c == c'
  | none => true
/-- a dict's display, its keys and values in turn -/
def pairE : List (Option Expr) → List Expr → Option (List Expr)
  | [], [] => some []
  | some k :: ks, v :: vs => if notStar k && notStar v then (pairE ks vs).map fun r => k :: v :: r else none
  | _, _ => none
def isGet (m : Str) (as : List Expr) : Bool := m == ("get" : Str) && (match as with | [_] => true | [_, _] => true | _ => false)
/-- sorted's argument is set(..) or a set comprehension -/
def isSetArg : List Expr → Bool
  | [.Call (.Name g _) [_] [] _] => g == ("set" : Str)
  | [.SetComp _ _ _ _] => true
  | _ => false
def cBm0 (x : Str) : Option Bm := if x == ("pop" : Str) then some .pop else none
def cBm1 (x : Str) : Option Bm :=
  if x == ("append" : Str) then some .append else if x == ("extend" : Str) then some .extend else if x == ("join" : Str) then some .join
  else if x == ("count" : Str) then some .count else if x == ("rfind" : Str) then some .rfind else if x == ("startswith" : Str) then some .startswith else if x == ("index" : Str) then some .index else none
/-- a built-in's name that the module leaves alone -/
def bltB (C : Cs) (x : Str) : Bool := glB C.sc x && C.gb.contains x && !(x == ("__debug__" : Str)) && !(x == ("__name__" : Str))
def seqO {α : Type} : List (Option α) → Option (List α)
  | [] => some []
  | o :: os => match o, seqO os with
    | some a, some as => some (a :: as)
    | _, _ => none
def foldB (f : Ex → Ex → Ex) : List Ex → Option Ex
  | [] => none
  | [e] => some e
  | e :: es => (foldB f es).map (f e)
def isTyName (C : Cs) : Expr → Option Nat
  | .Name t _ => if bltB C t then cTy t else none
  | _ => none
mutual
/-- a target of names -/
def cTg (C : Cs) : Nat → Expr → Option Tg
  | 0, _ => none
  | n + 1, .Name x _ => match findN C.N x with
    | some i => if locB C.sc x && ownB C.wr x then some (.var i) else none
    | none => none
  | n + 1, .Tuple es _ _ => if es.all notStar then (cTgs C n es).map .tup else none
  | _, _ => none
def cTgs (C : Cs) : Nat → List Expr → Option (List Tg)
  | _, [] => some []
  | 0, _ => none
  | n + 1, e :: es => match cTg C n e, cTgs C n es with
    | some t, some ts => some (t :: ts)
    | _, _ => none
end
/-- the names of a target with their slots -/
def tgNames (C : Cs) : Nat → Expr → List (Str × Nat)
  | 0, _ => []
  | n + 1, .Name x _ => match findN C.N x with
    | some i => [(x, i)]
    | none => []
  | n + 1, .Tuple es _ _ => es.flatMap (tgNames C n)
  | _, _ => []
def blkB (C : Cs) (scope : Scope) (own : List (Str × Nat)) : Bool := blkC C.N C.sc scope own
/-- what enumerate and zip hand out goes to a tuple of names -/
def tgOk (tg : Expr) (k : Ik) : Bool := match k with
  | .enum => (match tg with | .Tuple _ _ _ => true | _ => false)
  | .zip => (match tg with | .Tuple _ _ _ => true | _ => false)
  | .items => (match tg with | .Tuple _ _ _ => true | _ => false)
  | _ => true
def notSet : Expr → Bool
  | .Set _ _ _ => false
  | _ => true
def noSuper : Expr → Bool
  | .Call (.Name id _) [] [] _ => !(id == ("super" : Str))
  | _ => true
def isSl : Expr → Bool
  | .Slice _ _ _ _ => true
  | _ => false
def optE (f : Expr → Option Ex) : Option Expr → Option (Option Ex)
  | none => some none
  | some e => (f e).map some
def condE (f : Expr → Option Ex) : List Expr → Option (Option Ex)
  | [] => some none
  | [c] => (f c).map some
  | _ => none
/-- the built-ins that are walked -/
def cIk (f : Str) (as : List Ex) : Option Ik := match as with
  | [_] => if f == ("range" : Str) then some .range else if f == ("reversed" : Str) then some .rev else if f == ("enumerate" : Str) then some .enum else none
  | [_, _] => if f == ("range" : Str) then some .range else none
  | _ => none
def cE (C : Cs) : Nat → Bool → Expr → Option Ex
  | 0, _, _ => none
  | n + 1, cell, e => match e with
    | .Constant (.int i) _ _ => some (.con (.int i))
    | .Constant (.bool b) _ _ => some (.con (.bl b))
    | .Constant .none _ _ => some (.con .non)
    | .Constant (.str x) _ _ => some (.con (.str x.cps.toList))
    | .Name x _ => match cNm C x with
      | some i => some (.var i)
      | none => if glB C.sc x && !(x == ("__debug__" : Str)) then (C.gc.lookup x).map .glob else none
    | .BinOp a op b _ => match cOp op, cE C n false a, cE C n false b with
      | some o, some a, some b => some (.op o a b)
      | _, _, _ => none
    | .UnaryOp .USub a _ => (cE C n false a).map .neg
    | .UnaryOp .Not a _ => (cE C n false a).map .not
    | .BoolOp .And es _ => match seqO (es.map (cE C n false)) with
      | some es => foldB .and es
      | none => none
    | .BoolOp .Or es _ => match seqO (es.map (cE C n false)) with
      | some es => foldB .or es
      | none => none
    | .IfExp c a b _ => match cE C n false c, cE C n cell a, cE C n cell b with
      | some c, some a, some b => some (.ite c a b)
      | _, _, _ => none
    | .Compare a [op] [b] _ => if behindInMarks op b then none else match cCm op, cE C n false a, cE C n false b with
      | some o, some a, some b => some (.cmp o a b)
      | _, _, _ => none
    | .Compare a [op, op'] [b, c] _ => if lastMarks [op, op'] [b, c] then none else match cCm op, cCm op', cE C n false a, cE C n false b, cE C n false c with
      | some o, some o', some a, some b, some c => some (.chain o o' a b c)
      | _, _, _, _, _ => none
    | .Tuple es _ _ => if es.all notStar then (seqO (es.map (cE C n false))).map .tup else none
    | .List es _ => if es.all notStar then (seqO (es.map (cE C n false))).map (.lst cell) else none
    | .Subscript a (.Slice lo hi none _) _ =>
      match cE C n false a, optE (cE C n false) lo, optE (cE C n false) hi with
      | some a, some lo, some hi => some (.sl a lo hi)
      | _, _, _ => none
    | .Subscript a b _ => if isSl b then none else match cE C n false a, cE C n false b with
      | some a, some b => some (.ix a b)
      | _, _ => none
    | .Dict keys values pos => if 15 < keys.length then none else match pairE keys values with
      | some es => (seqO (es.map (cE C n false))).map (.dct (C.tdl.contains pos.line) cell)
      | none => none
    | .Attribute o f _ => if noSuper o then match cE C n false o, C.fl.lookup f with
        | some o', some (k, cs) => some (.fld o' k (cs.filter (rcvOk C o)))
        | _, _ => none
      else none
    | .Call (.Name f fp) args [] _ =>
      if bltB C f && f == ("isinstance" : Str) then
        match args with
        | [x, .Tuple ts _ _] => if !notStar x then none else match cE C n false x, seqO (ts.map (isTyName C)) with
          | some x, some ts => if ts.length ≤ 100 then some (.bf (.isinst ts) false [x]) else none
          | _, _ => none
        | [x, t] => if !notStar x then none else match cE C n false x, isTyName C t with
          | some x, some t => some (.bf (.isinst [t]) false [x])
          | _, _ => none
        | _ => none
      else if bltB C f && f == ("sorted" : Str) && isSetArg args then
        match args with
        | [.SetComp elt [⟨tg, iter, ifs, asy⟩] scope _] =>
          let own := tgNames C n tg
          let C' : Cs := { C with sc := relS scope C.sc, wr := some scope }
          if blkB C scope own && notSet iter && decide (asy = 0) then
            match cIt C n iter, cTg C' n tg, cE C' n false elt, condE (cE C' n false) ifs with
            | some (k, its), some t, some e, some c => if t.slots.all (fun i => (own.map (·.2)).contains i) && tgOk tg k then some (.sc cell e t (own.map (·.2)) k its c) else none
            | _, _, _, _ => none
          else none
        | _ => none
      else if args.all notStar then
        match seqO (args.map (cE C n false)) with
        | none => none
        | some as =>
          if glB C.sc f && !(f == ("__debug__" : Str)) then
            match C.gd.lookup f with
            | some k => some (.call k as)
            | none => match C.cls.lookup f with
            | some (c, k) => some (.make c k as)
            | none => if bltB C f && !as.isEmpty then (cBf f).map fun b => .bf b cell as else none
          else match cNm C f with
            | some i => if as.isEmpty then none else some (.callv i as)
            | none => none
      else none
    | .Call (.Attribute o m apos) args [] cpos =>
      if args.all notStar && noSuper o then
        match cE C n false o, seqO (args.map (cE C n false)) with
        | some o', some as => match C.mt.lookup m with
          | some tab => if apos.endLine == cpos.line && decide (args.length < 30) && !(tab.filter fun p => rcvOk C o p.1).isEmpty then some (.meth o' (tab.filter fun p => rcvOk C o p.1) as) else none
          | none => if apos.endLine == cpos.line then (if isGet m args then some (.bm .get o' as) else (match as with | [] => cBm0 m | [_] => cBm1 m | _ => none).map fun b => .bm b o' as) else none
        | _, _ => none
      else none
    | .ListComp elt [⟨tg, iter, ifs, asy⟩] scope _ =>
      let own := tgNames C n tg
      let C' : Cs := { C with sc := relS scope C.sc, wr := some scope }
      if blkB C scope own && notSet iter && decide (asy = 0) then
        match cIt C n iter, cTg C' n tg, cE C' n cell elt, condE (cE C' n false) ifs with
        | some (k, its), some t, some e, some c => if t.slots.all (fun i => (own.map (·.2)).contains i) && tgOk tg k then some (.lc cell e t (own.map (·.2)) k its c) else none
        | _, _, _, _ => none
      else none
    | .DictComp ke ve [⟨tg, iter, ifs, asy⟩] scope _ =>
      let own := tgNames C n tg
      let C' : Cs := { C with sc := relS scope C.sc, wr := some scope }
      if blkB C scope own && notSet iter && decide (asy = 0) then
        match cIt C n iter, cTg C' n tg, cE C' n false ke, cE C' n false ve, condE (cE C' n false) ifs with
        | some (k, its), some t, some e, some v, some c => if t.slots.all (fun i => (own.map (·.2)).contains i) && tgOk tg k then some (.dc cell e v t (own.map (·.2)) k its c) else none
        | _, _, _, _, _ => none
      else none
    | _ => none
where
  /-- what a for walks -/
  cIt (C : Cs) (n : Nat) (e : Expr) : Option (Ik × List Ex) :=
    match n with
    | 0 => none
    | n + 1 => match e with
    | .Call (.Name f _) args [] _ =>
      if bltB C f && args.all notStar then
        match seqO (args.map (cE C n false)) with
        | none => none
        | some as =>
          match cIk f as with
          | some k => some (k, as)
          | none => (cE C n false e).map fun e => (.seq, [e])
      else (cE C n false e).map fun e => (.seq, [e])
    | _ => (cE C n false e).map fun e => (.seq, [e])
end Z
end

section

/-! Z3: statements, defs, runs. -/
namespace Z
open PySem L2

/-- a statement's end -/
inductive RS where
  | nx (ρ : Env) (S : Sto) | rt (v : Vl) (S : Sto) | bk (ρ : Env) (S : Sto) | ct (ρ : Env) (S : Sto) | exc (e : Exn) (S : Sto) | bad
  deriving Inhabited, Repr
def Res.thn {α : Type} (r : Res α) (f : α → Sto → RS) : RS :=
  match r with
  | .ok a S => f a S
  | .exc e S => .exc e S
  | .bad => .bad
def RS.seq (r : RS) (f : Env → Sto → RS) : RS :=
  match r with
  | .nx ρ S => f ρ S
  | r => r
/-- the turns of a while -/
def whl (c : Env → Sto → Res Bool) (b : Env → Sto → RS) : Nat → Env → Sto → RS
  | 0, _, _ => .bad
  | n + 1, ρ, S => (c ρ S).thn fun k S => if k then (match b ρ S with
      | .nx ρ S => whl c b n ρ S
      | .ct ρ S => whl c b n ρ S
      | .bk ρ S => .nx ρ S
      | r => r) else .nx ρ S
/-- the turns of a for -/
def fors (b : Env → Sto → RS) (t : Tg) : List Vl → Env → Sto → RS
  | [], ρ, S => .nx ρ S
  | v :: vs, ρ, S => match bindT t v ρ with
    | none => .bad
    | some ρ => match b ρ S with
      | .nx ρ S => fors b t vs ρ S
      | .ct ρ S => fors b t vs ρ S
      | .bk ρ S => .nx ρ S
      | r => r
def RS.mapS (f : Sto → Sto) : RS → RS
  | .nx ρ S => .nx ρ (f S)
  | .rt v S => .rt v (f S)
  | .bk ρ S => .bk ρ (f S)
  | .ct ρ S => .ct ρ (f S)
  | .exc e S => .exc e (f S)
  | .bad => .bad
/-- a cell's list as plain data; the cell is shut -/
def freeze (v : Vl) (S : Sto) : Option (D × Sto) :=
  match v with
  | .d x => some (x, S)
  | .p n => match S[n]? with
    | some (.lst xs) => match pures xs with
      | some ds => some (.lst ds, S.set n .dead)
      | none => none
    | some (.dct t kvs) => match pures (kvs.map (·.2)) with
      | some ds => some (.dct t (kvs.map (·.1)) ds, S.set n .dead)
      | none => none
    | _ => none
def frz : List Nat → Env → Sto → Option (Env × Sto)
  | [], ρ, S => some (ρ, S)
  | i :: is, ρ, S => match (ρ[i]?).bind id with
    | none => frz is ρ S
    | some v => match freeze v S with
      | some (d, S) => frz is (ρ.set i (some (.d d))) S
      | none => none
def setItem (o i v : Vl) (S : Sto) : Option Sto :=
  match o, i with
  | .p n, .d k => match S[n]? with
    | some (.lst xs) => match k with
      | .int i => (ixN xs.length i).map fun j => S.set n (.lst (xs.set j v))
      | _ => none
    | some (.dct t kvs) => if keyOk t k && decide (kvs.length < most) then some (S.set n (.dct t (kvPut kvs k v))) else none
    | _ => none
  | _, _ => none
def setField (o v : Vl) (f : Nat) (cs : List Nat) (S : Sto) : Option Sto :=
  match o with
  | .p n => match S[n]? with
    | some (.ins c fs) => if cs.contains c && decide (fs.length < 1000) then some (S.set n (.ins c (kwPut fs f v))) else none
    | _ => none
  | _ => none

def setItemD (o i v : Vl) (S : Sto) : Option Sto :=
  match o, i with
  | .p n, .d k => match S[n]? with
    | some (.dct t kvs) => if keyOk t k && decide (kvs.length < most) then some (S.set n (.dct t (kvPut kvs k v))) else none
    | _ => none
  | _, _ => none
/-- what a dict has at a key that is there -/
def dgetR (x i : Vl) (S : Sto) : Res Vl := match i with
  | .d k => match getOf x k S with
    | some (some v) => .ok v S
    | _ => .bad
  | _ => .bad
/-- x op= y: ints, texts -/
def augop (o : Op) (x y : Vl) (S : Sto) : Res Vl :=
  match o with
  | .add => match x with
    | .d (.int i) => match y with
      | .d (.int j) => .ok (.d (.int (i + j))) S
      | _ => .bad
    | .d (.str a) => match y with
      | .d (.str b) => if decide (a.length + b.length ≤ most) then .ok (.d (.str (a ++ b))) S else .bad
      | _ => .bad
    | _ => .bad
  | .sub => opI (fun _ _ => true) (fun i j => i - j) x y S
  | .mul => opI cMul (fun i j => i * j) x y S
  | .fdiv => opI (fun _ j => decide (0 < j) && decide (j < 1073741824)) (fun i j => i / j) x y S
  | .mod => opI (fun _ j => decide (0 < j)) (fun i j => i % j) x y S
  | .pow => .bad
  | .shl => opI cPow (fun i j => i * 2 ^ j.toNat) x y S
mutual
def ex (G : Gm) (rc : Nat → List Vl → Sto → Res Vl) : St → Env → Sto → RS
  | .asg t e, ρ, S => (ev G rc e ρ S).thn fun v S => match bindT t v ρ with
    | some ρ => .nx ρ S
    | none => .bad
  | .sub o i e, ρ, S => (ev G rc e ρ S).thn fun v S => (ev G rc o ρ S).thn fun x S => (ev G rc i ρ S).thn fun k S => match setItem x k v S with
    | some S => .nx ρ S
    | none => .bad
  | .fld o f cs e, ρ, S => (ev G rc e ρ S).thn fun v S => (ev G rc o ρ S).thn fun x S => match setField x v f cs S with
    | some S => .nx ρ S
    | none => .bad
  | .fldaug a f cs o e, ρ, S => (ev G rc a ρ S).thn fun x S => (field x f cs S).thn fun u S => (ev G rc e ρ S).thn fun y S => (augop o u y S).thn fun z S => match setField x z f cs S with
    | some S => .nx ρ S
    | none => .bad
  | .daug d k o e, ρ, S => (ev G rc d ρ S).thn fun x S => (ev G rc k ρ S).thn fun i S => (dgetR x i S).thn fun u S => (ev G rc e ρ S).thn fun y S => (augop o u y S).thn fun z S => match setItemD x i z S with
    | some S => .nx ρ S
    | none => .bad
  | .par i j a b, ρ, S => (ev G rc a ρ S).thn fun v S => (ev G rc b ρ S).thn fun w S => .nx ((ρ.set i (some v)).set j (some w)) S
  | .aug i o e, ρ, S => (pick ((ρ[i]?).bind id) S).thn fun x S => (ev G rc e ρ S).thn fun y S => (augop o x y S).thn fun z S => .nx (ρ.set i (some z)) S
  | .expr e, ρ, S => (ev G rc e ρ S).thn fun _ S => .nx ρ S
  | .ret e, ρ, S => (ev G rc e ρ S).thn fun v S => .rt v S
  | .ifs c a b, ρ, S => (ev G rc c ρ S).thn fun x S => (tru x S).thn fun k S => if k then exs G rc a ρ S else exs G rc b ρ S
  | .whl c b, ρ, S => whl (fun ρ S => (ev G rc c ρ S).bind tru) (exs G rc b) G.fuel ρ S
  | .fors t k its b, ρ, S => ((evs G rc its ρ S).bind (walkF k)).thn fun q S => (fors (exs G rc b) t q.1 ρ (lock S q.2)).mapS fun S => unlock S q.2
  | .brk, ρ, S => .bk ρ S
  | .cnt, ρ, S => .ct ρ S
  | .pass, ρ, S => .nx ρ S
  | .frz is, ρ, S => match frz is ρ S with
    | some (ρ, S) => .nx ρ S
    | none => .bad
def exs (G : Gm) (rc : Nat → List Vl → Sto → Res Vl) : List St → Env → Sto → RS
  | [], ρ, S => .nx ρ S
  | s :: ss, ρ, S => (ex G rc s ρ S).seq fun ρ S => exs G rc ss ρ S
end

/-- a value that holds no cell from n on -/
def Vl.below (n : Nat) : Vl → Bool
  | .d _ => true
  | .p m => decide (m < n)
def Cell.below (n : Nat) : Cell → Bool
  | .dead => true
  | .lst xs => xs.all (Vl.below n)
  | .dct _ kvs => kvs.all fun p => p.2.below n
  | .ins _ fs => fs.all fun p => p.2.below n
/-- behind a call: the answer as data, the cells that the call made gone -/
def leave (keep : Bool) (S₀ : Sto) (v : Vl) (S : Sto) : Res Vl :=
  if keep then .ok v S
  else match v with
    | .p n => if n < S₀.length then close v S else match freeze v S with
      | some (d, S) => close (.d d) S
      | none => .bad
    | v => close v S
where
  close (v : Vl) (S : Sto) : Res Vl :=
    let S' := S.take S₀.length
    if S'.length == S₀.length && (S'.all (Cell.below S₀.length)) && v.below S₀.length then .ok v S' else .bad
def dataO : Vl → Bool
  | .d _ => true
  | .p _ => false
/-- behind the call of a def that sees no cell of its caller -/
def goOut (S : Sto) (v : Vl) (S' : Sto) : Res Vl := match freeze v S' with
  | some (d, _) => .ok (.d d) S
  | none => .bad
/-- a def's run, by the depth of its calls; an __init__ runs one level lower, for its class's call takes one -/
def run (G : Gm) : Nat → Nat → List Vl → Sto → Res Vl
  | 0, _, _, _ => .bad
  | k + 1, f, as, S => match G.defs f with
    | none => .bad
    | some d => if as.length == d.params then
        if d.init then
          match k with
          | 0 => .bad
          | k + 1 => match exs G (run G k) d.body (as.map some ++ List.replicate (d.slots - d.params) none) S with
            | .nx _ S' => .ok (.d .non) S'
            | .exc e S' => .exc e S'
            | _ => .bad
        else if d.alone then
          if as.all dataO then
            match exs G (run G k) d.body (as.map some ++ List.replicate (d.slots - d.params) none) [] with
            | .nx _ _ => .ok (.d .non) S
            | .rt v S' => goOut S v S'
            | .exc e _ => .exc e S
            | _ => .bad
          else .bad
        else
        match exs G (run G k) d.body (as.map some ++ List.replicate (d.slots - d.params) none) S with
        | .nx _ S' => leave d.keep S (.d .non) S'
        | .rt v S' => leave d.keep S v S'
        | .exc e S' => .exc e S'
        | _ => .bad
      else .bad

/-! ### from the text -/
def frzAt (C : Cs) (l : Nat) : List St := match C.frz.lookup l with
  | some is => [.frz is]
  | none => []
def isTup : Expr → Bool
  | .Tuple _ _ _ => true
  | .List _ _ => true
  | _ => false
def isLc : Expr → Bool
  | .ListComp _ _ _ _ => true
  | .SetComp _ _ _ _ => true
  | .DictComp _ _ _ _ _ => true
  | _ => false
/-- x = [..]: the two forms that the model has -/
def lcOk (C : Cs) (x : Str) (px pos : Pos) : Expr → Bool
  | .ListComp elt gs scope p => match C.sc.names.lookup x with
    | some .local => (px.line == p.line) && (match C.sc.kind with | .function => true | _ => false) && !(scope.names.any fun (n, k) => n == x && (k == .local || k == .cell))
    | _ => true
  | .DictComp _ _ _ scope p => match C.sc.names.lookup x with
    | some .local => (px.line == p.line) && (match C.sc.kind with | .function => true | _ => false) && !(scope.names.any fun (n, k) => n == x && (k == .local || k == .cell))
    | _ => true
  | e => !isLc e
def parOf : List Expr → Expr → Option (Str × Pos × Str × Pos × Expr × Expr)
  | [.Name x px, .Name y py], .Tuple [a, b] _ _ => some (x, px, y, py, a, b)
  | _, _ => none
theorem parOf_some {ts : List Expr} {e : Expr} {x y : Str} {px py : Pos} {a b : Expr} (h : parOf ts e = some (x, px, y, py, a, b)) : ts = [.Name x px, .Name y py] ∧ ∃ k p, e = .Tuple [a, b] k p := by
  unfold parOf at h
  split at h
  · simp only [Option.some.injEq, Prod.mk.injEq] at h
    obtain ⟨rfl, rfl, rfl, rfl, rfl, rfl⟩ := h
    exact ⟨rfl, _, _, rfl⟩
  · cases h
/-- x, y = a, b: two different plain locals -/
def parB (C : Cs) (x y : Str) (px py : Pos) (a b : Expr) : Bool := !(x == y) && (match C.sc.names.lookup x with | some .local => true | _ => false) && (match C.sc.names.lookup y with | some .local => true | _ => false) &&
  ownB C.wr x && ownB C.wr y && notStar a && notStar b && (px.line == py.line) && (match C.sc.kind with | .function => true | _ => false) && !([a, b].all (foldedForSure 8)) && !([a, b].all (constantsAlone 8))
mutual
def cS (C : Cs) : Nat → Stmt → Option (List St)
  | 0, _ => none
  | n + 1, s => match s with
    | .Pass _ => some [.pass]
    | .Break _ => some [.brk]
    | .Continue _ => some [.cnt]
    | .Return none pos => some (frzAt C pos.line ++ [.ret (.con .non)])
    | .Return (some e) pos => (cE C n C.retc e).map fun e => frzAt C pos.line ++ [.ret e]
    | .Expr e pos => if isLc e then none else (cE C n false e).map fun e => frzAt C pos.line ++ [.expr e]
    | .Assign [.Name x px] e pos => match findN C.N x with
      | some i => if locB C.sc x && ownB C.wr x && lcOk C x px pos e then (cE C n (C.cells.contains x) e).map fun e => frzAt C pos.line ++ [.asg (.var i) e] else none
      | none => none
    | .Assign [.Tuple ts k p] e pos => match parOf ts e with
      | some (x, px, y, py, a, b) => (match findN C.N x, findN C.N y, cE C n false a, cE C n false b with
        | some i, some j, some a', some b' => if parB C x y px py a b then some (frzAt C pos.line ++ [.par i j a' b']) else none
        | _, _, _, _ => none)
      | none => if isTup e || isLc e then none else match cTg C n (.Tuple ts k p), cE C n false e with
        | some t, some e => some (frzAt C pos.line ++ [.asg t e])
        | _, _ => none
    | .Assign [.Subscript o i _] e pos => if isLc e || isSl i then none else match cE C n false o, cE C n false i, cE C n false e with
      | some o, some i, some e => some (frzAt C pos.line ++ [.sub o i e])
      | _, _, _ => none
    | .Assign [.Attribute o f _] e pos => if isLc e || !noSuper o then none else match cE C n false o, C.fl.lookup f, cE C n (C.fcells.contains f) e with
        | some o', some (k, cs), some e => some (frzAt C pos.line ++ [.fld o' k (cs.filter (rcvOk C o)) e])
        | _, _, _ => none
    | .AugAssign (.Attribute o f _) op e pos => match cE C n false o, C.fl.lookup f, cOp op, cE C n false e with
      | some o', some (k, cs), some op, some e => if noSuper o && (cs.filter (rcvOk C o)).length == 1 then some (frzAt C pos.line ++ [.fldaug o' k (cs.filter (rcvOk C o)) op e]) else none
      | _, _, _, _ => none
    | .AugAssign (.Subscript d i _) op e pos => if isSl i then none else match cE C n false d, cE C n false i, cOp op, cE C n false e with
      | some d, some i, some op, some e => some (frzAt C pos.line ++ [.daug d i op e])
      | _, _, _, _ => none
    | .AugAssign (.Name x _) op e pos => match findN C.N x, cOp op, cE C n false e with
      | some i, some o, some e => if locB C.sc x && ownB C.wr x then some (frzAt C pos.line ++ [.aug i o e]) else none
      | _, _, _ => none
    | .If c a b pos => match cE C n false c, cSs C n a, cSs C n b with
      | some c, some a, some b => some (frzAt C pos.line ++ [.ifs c a b])
      | _, _, _ => none
    | .While c b [] pos => match cE C n false c, cSs C n b with
      | some c, some b => some (frzAt C pos.line ++ [.whl c b])
      | _, _ => none
    | .For t' it b [] pos => match cTg C n t', cE.cIt C n it, cSs C n b with
      | some t, some (k, its), some b => if tgOk t' k && notSet it then some (frzAt C pos.line ++ [.fors t k its b]) else none
      | _, _, _ => none
    | _ => none
def cSs (C : Cs) : Nat → List Stmt → Option (List St)
  | _, [] => some []
  | 0, _ => none
  | n + 1, s :: ss => match cS C n s, cSs C n ss with
    | some a, some b => some (a ++ b)
    | _, _ => none
end
end Z
end

section

/-! Z4: how plain values lie in a heap. -/
namespace Z
open PySem L2

/-- where the text's own things lie -/
structure Wd where
  K : PySem.W.Frag
  fa : Nat → Addr
  ca : Nat → Addr
  nm : Nat → Str
  w : World

/-- a key as the heap's tables hold it -/
def keyK : D → Option Key
  | .int i => some (.inl i)
  | .str s => some (.inr ⟨s.toArray⟩)
  | _ => none
def keyKs : List D → Option (List Key)
  | [] => some []
  | d :: ds => match keyK d, keyKs ds with
    | some k, some ks => some (k :: ks)
    | _, _ => none
def keyT : D → Option (List Key)
  | .tup ds => keyKs ds
  | _ => none
/-- the dict at a: its keys, what stands at them -/
def DctR (H : Hp) (a : Addr) (t : Bool) (ks : List D) (ws : List V) : Prop :=
  (t = false ∧ ∃ kk : List Key, ks.map keyK = kk.map some ∧ kk.length = ws.length ∧ H a = some (.dK (kk.zip ws))) ∨
  (t = true ∧ ∃ kk : List (List Key), ks.map keyT = kk.map some ∧ kk.length = ws.length ∧ H a = some (.dT (kk.zip ws)))
theorem DctR.mono {H H' : Hp} {a a' : Addr} {t : Bool} {ks : List D} {ws : List V} (h : ∀ o, H a = some o → H' a' = some o) (r : DctR H a t ks ws) : DctR H' a' t ks ws := by
  rcases r with ⟨e, kk, h1, h2, h3⟩ | ⟨e, kk, h1, h2, h3⟩
  · exact .inl ⟨e, kk, h1, h2, h _ h3⟩
  · exact .inr ⟨e, kk, h1, h2, h _ h3⟩
theorem DctR.there {H : Hp} {a : Addr} {t : Bool} {ks : List D} {ws : List V} (r : DctR H a t ks ws) : ∃ o, H a = some o := by
  rcases r with ⟨e, kk, h1, h2, h3⟩ | ⟨e, kk, h1, h2, h3⟩
  · exact ⟨_, h3⟩
  · exact ⟨_, h3⟩
/-- the dict of the module's top at a: what stands at its text keys -/
def WdR (W : Wd) (a : Addr) (ks : List Tx) (us : List V) : Prop :=
  ks.length = us.length ∧ ∃ es n, W.K.lookup a = some ⟨.type "dict", none, .dict es n, #[]⟩ ∧ PySem.W.KeysLit W.w.params es.toList ∧ (a == sysModules) = false ∧
    ∀ z : Tx, ∃ r, PySem.W.nsIn W.K a ⟨z.toArray⟩ = some r ∧ RelO (wdFind ks us z) r
mutual
def Rp (W : Wd) (H : Hp) : D → V → Prop
  | .non, v => v = .non
  | .bl b, v => v = .bl b
  | .int i, v => v = .int i
  | .str s, v => v = .str ⟨s.toArray⟩
  | .fn f, v => v = .ref (W.fa f)
  | .tup ds, v => ∃ a vs, v = .ref a ∧ H a = some (.tup vs) ∧ Rps W H ds vs
  | .lst ds, v => ∃ a vs, v = .ref a ∧ H a = some (.lst vs) ∧ Rps W H ds vs
  | .scr ns, v => ∃ a, v = .ref a ∧ SqL W.K H a (ns.map V.int)
  | .dct t ks ds, v => ∃ a ws, v = .ref a ∧ DctR H a t ks ws ∧ Rps W H ds ws
  | .ins c ns ds, v => ∃ a dx vs, v = .ref a ∧ H a = some (.ins (W.ca c) dx ((ns.map W.nm).zip vs)) ∧ Rps W H ds vs
  | .wd ks ds, v => ∃ a us, v = .ref a ∧ WdR W a ks us ∧ Rps W H ds us
def Rps (W : Wd) (H : Hp) : List D → List V → Prop
  | [], vs => vs = []
  | d :: ds, vs => ∃ v r, vs = v :: r ∧ Rp W H d v ∧ Rps W H ds r
end

def Sub (F F' : Hp) : Prop := ∀ a o, F a = some o → F' a = some o
theorem Sub.refl (F : Hp) : Sub F F := fun _ _ h => h
theorem Sub.trans {F F' F'' : Hp} (a : Sub F F') (b : Sub F' F'') : Sub F F'' := fun x o h => b x o (a x o h)
theorem Sub.rd {F F' : Hp} (h : Sub F F') {a : Addr} {u : HO} (r : Rd F a u) : Rd F' a u := by
  rcases r with r | ⟨o, r⟩
  · exact .inl (h _ _ r)
  · exact .inr ⟨o, h _ _ r⟩
theorem Sub.sqL {F F' : Hp} (h : Sub F F') {K : PySem.W.Frag} {a : Addr} {xs : List V} (r : SqL K F a xs) : SqL K F' a xs := by
  rcases r with r | r
  · exact .inl (h.rd r)
  · exact .inr r
theorem Sub.sqT {F F' : Hp} (h : Sub F F') {K : PySem.W.Frag} {a : Addr} {xs : List V} (r : SqT K F a xs) : SqT K F' a xs := by
  rcases r with r | r
  · exact .inl (h.rd r)
  · exact .inr r
mutual
theorem Rp.mono {W : Wd} {F F' : Hp} (h : Sub F F') : ∀ {d : D} {v : V}, Rp W F d v → Rp W F' d v
  | .non, _, r => r
  | .bl _, _, r => r
  | .int _, _, r => r
  | .str _, _, r => r
  | .fn _, _, r => r
  | .tup ds, _, r => by
    obtain ⟨a, vs, e, q, t⟩ := r
    exact ⟨a, vs, e, h _ _ q, Rps.mono h t⟩
  | .lst ds, _, r => by
    obtain ⟨a, vs, e, q, t⟩ := r
    exact ⟨a, vs, e, h _ _ q, Rps.mono h t⟩
  | .scr ns, _, r => by
    obtain ⟨a, e, q⟩ := r
    exact ⟨a, e, h.sqL q⟩
  | .dct t ks ds, _, r => by
    obtain ⟨a, ws, e, q, z⟩ := r
    exact ⟨a, ws, e, q.mono (h a), Rps.mono h z⟩
  | .ins c ns ds, _, r => by
    obtain ⟨a, dx, vs, e, q, t⟩ := r
    exact ⟨a, dx, vs, e, h _ _ q, Rps.mono h t⟩
  | .wd ks ds, _, r => by
    obtain ⟨a, us, e, q, t⟩ := r
    exact ⟨a, us, e, q, Rps.mono h t⟩
theorem Rps.mono {W : Wd} {F F' : Hp} (h : Sub F F') : ∀ {ds : List D} {vs : List V}, Rps W F ds vs → Rps W F' ds vs
  | [], _, r => r
  | d :: ds, _, r => by
    obtain ⟨v, q, e, r1, r2⟩ := r
    exact ⟨v, q, e, Rp.mono h r1, Rps.mono h r2⟩
end
theorem Rps.length {W : Wd} {F : Hp} : ∀ {ds : List D} {vs : List V}, Rps W F ds vs → ds.length = vs.length
  | [], _, r => by cases (show _ = [] from r); rfl
  | d :: ds, _, r => by
    obtain ⟨v, q, e, r1, r2⟩ := r
    rw [e, List.length_cons, List.length_cons, Rps.length r2]

/-- a value in the heap: data in what is frozen, or the object of a cell -/
def VlR (W : Wd) (α : Nat → Addr) (F : Hp) (N : Nat) : Vl → V → Prop
  | .d x, v => Rp W F x v
  | .p n, v => v = .ref (α n) ∧ n < N
inductive VlRs (W : Wd) (α : Nat → Addr) (F : Hp) (N : Nat) : List Vl → List V → Prop
  | nil : VlRs W α F N [] []
  | cons {x : Vl} {v : V} {xs : List Vl} {vs : List V} : VlR W α F N x v → VlRs W α F N xs vs → VlRs W α F N (x :: xs) (v :: vs)
def CellOk (W : Wd) (α : Nat → Addr) (F : Hp) (N : Nat) (H : Hp) (a : Addr) : Cell → Prop
  | .dead => True
  | .lst xs => ∃ vs, H a = some (.lst vs) ∧ VlRs W α F N xs vs
  | .dct t kvs => ∃ ws, DctR H a t (kvs.map (·.1)) ws ∧ VlRs W α F N (kvs.map (·.2)) ws
  | .ins c fs => ∃ dx vs, H a = some (.ins (W.ca c) dx ((fs.map fun p => W.nm p.1).zip vs)) ∧ VlRs W α F N (fs.map (·.2)) vs
def Live (S : Sto) (n : Nat) : Prop := ∃ c, S[n]? = some c ∧ c ≠ .dead
/-- the state in the heap -/
structure Sr (W : Wd) (α : Nat → Addr) (F : Hp) (S : Sto) (H : Hp) : Prop where
  sub : Sub F H
  sep : ∀ n, Live S n → F (α n) = none
  inj : ∀ m n, Live S m → Live S n → α m = α n → m = n
  cel : ∀ n c, S[n]? = some c → CellOk W α F S.length H (α n) c
/-- what a piece of work leaves -/
structure Ext (α : Nat → Addr) (F : Hp) (S : Sto) (H : Hp) (α' : Nat → Addr) (F' : Hp) (S' : Sto) (H' : Hp) : Prop where
  al : ∀ n, n < S.length → α' n = α n
  len : S.length ≤ S'.length
  fr : Sub F F'
  frame : ∀ a o, H a = some o → (∀ n, Live S n → α n ≠ a) → H' a = some o
  new : ∀ n, S.length ≤ n → n < S'.length → H (α' n) = none
  lv : ∀ n, n < S.length → Live S' n → Live S n
  dom : ∀ a, H' a = none → H a = none
  fz : ∀ a o, F' a = some o → F a = none → H a = none ∨ ∃ n, Live S n ∧ α n = a
theorem Live.lt {S : Sto} {n : Nat} (h : Live S n) : n < S.length := by
  obtain ⟨c, e, _⟩ := h
  exact (List.getElem?_eq_some_iff.mp e).1
theorem Ext.refl {α : Nat → Addr} {F : Hp} {S : Sto} {H : Hp} : Ext α F S H α F S H :=
  ⟨fun _ _ => rfl, Nat.le_refl _, Sub.refl F, fun _ _ h _ => h, fun n h1 h2 => absurd (Nat.lt_of_lt_of_le h2 h1) (Nat.lt_irrefl _), fun _ _ h => h, fun _ h => h, fun _ o h h' => by rw [h'] at h; cases h⟩
theorem Ext.trans {α α1 α2 : Nat → Addr} {F F1 F2 : Hp} {S S1 S2 : Sto} {H H1 H2 : Hp} (x : Ext α F S H α1 F1 S1 H1) (y : Ext α1 F1 S1 H1 α2 F2 S2 H2) : Ext α F S H α2 F2 S2 H2 where
  al := fun n h => (y.al n (Nat.lt_of_lt_of_le h x.len)).trans (x.al n h)
  len := Nat.le_trans x.len y.len
  fr := x.fr.trans y.fr
  frame := fun a o h k => by
    refine y.frame a o (x.frame a o h k) fun n l e => ?_
    by_cases hn : n < S.length
    · exact k n (x.lv n hn l) (by rw [← x.al n hn]; exact e)
    · have := x.new n (Nat.le_of_not_lt hn) l.lt
      rw [e, h] at this
      cases this
  new := fun n h1 h2 => by
    by_cases hn : n < S1.length
    · rw [y.al n hn]; exact x.new n h1 hn
    · exact x.dom _ (y.new n (Nat.le_of_not_lt hn) h2)
  lv := fun n h l => x.lv n h (y.lv n (Nat.lt_of_lt_of_le h x.len) l)
  dom := fun a h => x.dom a (y.dom a h)
  fz := fun a o h h' => by
    cases q : F1 a with
    | some u => exact x.fz a u q h'
    | none =>
      rcases y.fz a o h q with z | ⟨n, l, e⟩
      · exact .inl (x.dom a z)
      · by_cases hn : n < S.length
        · exact .inr ⟨n, x.lv n hn l, by rw [← x.al n hn]; exact e⟩
        · have := x.new n (Nat.le_of_not_lt hn) l.lt
          rw [e] at this
          exact .inl this

section
variable {W : Wd} {α α' : Nat → Addr} {F F' : Hp} {S S' : Sto} {H H' : Hp} {N N' : Nat}
theorem VlR.mono (al : ∀ n, n < N → α' n = α n) (hN : N ≤ N') (fr : Sub F F') : ∀ {x : Vl} {v : V}, VlR W α F N x v → VlR W α' F' N' x v
  | .d _, _, r => Rp.mono fr r
  | .p n, _, r => by
    obtain ⟨e, h⟩ := r
    exact ⟨by rw [al n h]; exact e, Nat.lt_of_lt_of_le h hN⟩
theorem VlRs.mono (al : ∀ n, n < N → α' n = α n) (hN : N ≤ N') (fr : Sub F F') {xs : List Vl} {vs : List V} (r : VlRs W α F N xs vs) : VlRs W α' F' N' xs vs := by
  induction r with
  | nil => exact .nil
  | cons a _ ih => exact .cons (a.mono al hN fr) ih
theorem VlR.ext (x : Ext α F S H α' F' S' H') {v : Vl} {w : V} (r : VlR W α F S.length v w) : VlR W α' F' S'.length v w := r.mono x.al x.len x.fr
theorem VlRs.ext (x : Ext α F S H α' F' S' H') {v : List Vl} {w : List V} (r : VlRs W α F S.length v w) : VlRs W α' F' S'.length v w := r.mono x.al x.len x.fr
theorem VlRs.length {xs : List Vl} {vs : List V} (r : VlRs W α F N xs vs) : xs.length = vs.length := by
  induction r with
  | nil => rfl
  | cons _ _ ih => simp [ih]
theorem VlRs.append {xs ys : List Vl} {vs ws : List V} (r : VlRs W α F N xs vs) (q : VlRs W α F N ys ws) : VlRs W α F N (xs ++ ys) (vs ++ ws) := by
  induction r with
  | nil => exact q
  | cons a _ ih => exact .cons a ih
theorem VlRs.get {xs : List Vl} {vs : List V} (r : VlRs W α F N xs vs) : ∀ {i : Nat} {x : Vl}, xs[i]? = some x → ∃ v, vs[i]? = some v ∧ VlR W α F N x v := by
  induction r with
  | nil => intro i x h; simp at h
  | cons a _ ih =>
    intro i x h
    cases i with
    | zero => simp at h; subst h; exact ⟨_, rfl, a⟩
    | succ i => simpa using ih (by simpa using h)
theorem VlRs.getV {xs : List Vl} {vs : List V} (r : VlRs W α F N xs vs) : ∀ {i : Nat} {v : V}, vs[i]? = some v → ∃ x, xs[i]? = some x ∧ VlR W α F N x v := by
  induction r with
  | nil => intro i x h; simp at h
  | cons a _ ih =>
    intro i x h
    cases i with
    | zero => simp at h; subst h; exact ⟨_, rfl, a⟩
    | succ i => simpa using ih (by simpa using h)
theorem VlRs.set {xs : List Vl} {vs : List V} {x : Vl} {v : V} (r : VlRs W α F N xs vs) (q : VlR W α F N x v) : ∀ (i : Nat), VlRs W α F N (xs.set i x) (vs.set i v) := by
  induction r with
  | nil => intro i; exact .nil
  | cons a t ih =>
    intro i
    cases i with
    | zero => exact .cons q t
    | succ i => exact .cons a (ih i)
theorem VlRs.dropLast {xs : List Vl} {vs : List V} (r : VlRs W α F N xs vs) : VlRs W α F N xs.dropLast vs.dropLast := by
  induction r with
  | nil => exact .nil
  | cons a t ih =>
    cases t with
    | nil => exact .nil
    | cons b t => exact .cons a ih
theorem VlRs.reverse {xs : List Vl} {vs : List V} (r : VlRs W α F N xs vs) : VlRs W α F N xs.reverse vs.reverse := by
  induction r with
  | nil => exact .nil
  | cons a _ ih => rw [List.reverse_cons, List.reverse_cons]; exact ih.append (.cons a .nil)
theorem VlRs.of_pure : ∀ {ds : List D} {vs : List V}, Rps W F ds vs → VlRs W α F N (ds.map .d) vs
  | [], _, r => by cases (show _ = [] from r); exact .nil
  | d :: ds, _, r => by
    obtain ⟨v, q, e, r1, r2⟩ := r
    subst e
    exact .cons r1 (VlRs.of_pure r2)
theorem VlRs.pures {xs : List Vl} {vs : List V} (r : VlRs W α F N xs vs) : ∀ {ds : List D}, pures xs = some ds → Rps W F ds vs := by
  induction r with
  | nil => intro ds e; cases e; exact rfl
  | @cons x v xs vs a _ ih =>
    intro ds e
    unfold Z.pures at e
    cases x with
    | p n => simp at e
    | d x =>
      cases q : Z.pures xs with
      | none => rw [q] at e; simp at e
      | some es =>
        rw [q] at e
        simp at e
        subst e
        exact ⟨v, vs, rfl, a, ih q⟩
theorem Rps.get {xs : List D} : ∀ {vs : List V}, Rps W F xs vs → ∀ {i : Nat} {x : D}, xs[i]? = some x → ∃ v, vs[i]? = some v ∧ Rp W F x v := by
  induction xs with
  | nil => intro vs r i x h; simp at h
  | cons d ds ih =>
    intro vs r i x h
    obtain ⟨v, q, e, r1, r2⟩ := r
    subst e
    cases i with
    | zero => simp at h; subst h; exact ⟨_, rfl, r1⟩
    | succ i => simpa using ih r2 (by simpa using h)
theorem Rps.append : ∀ {xs ys : List D} {vs ws : List V}, Rps W F xs vs → Rps W F ys ws → Rps W F (xs ++ ys) (vs ++ ws)
  | [], _, _, _, r, q => by cases (show _ = [] from r); exact q
  | d :: ds, _, _, _, r, q => by
    obtain ⟨v, t, e, r1, r2⟩ := r
    subst e
    exact ⟨v, _, rfl, r1, Rps.append r2 q⟩
theorem Rps.take : ∀ {xs : List D} {vs : List V} (n : Nat), Rps W F xs vs → Rps W F (xs.take n) (vs.take n)
  | _, _, 0, _ => by rw [List.take_zero, List.take_zero]; rfl
  | [], _, n + 1, r => by cases (show _ = [] from r); rfl
  | d :: ds, _, n + 1, r => by
    obtain ⟨v, t, e, r1, r2⟩ := r
    subst e
    exact ⟨v, _, rfl, r1, Rps.take n r2⟩
theorem Rps.drop : ∀ {xs : List D} {vs : List V} (n : Nat), Rps W F xs vs → Rps W F (xs.drop n) (vs.drop n)
  | _, _, 0, r => r
  | [], _, n + 1, r => by cases (show _ = [] from r); rfl
  | d :: ds, _, n + 1, r => by
    obtain ⟨v, t, e, r1, r2⟩ := r
    subst e
    exact Rps.drop n r2
theorem CellOk.mono (al : ∀ n, n < N → α' n = α n) (hN : N ≤ N') (fr : Sub F F') {a : Addr} : ∀ {c : Cell}, (c ≠ .dead → ∀ o, H a = some o → H' a = some o) → CellOk W α F N H a c → CellOk W α' F' N' H' a c
  | .dead, _, _ => trivial
  | .lst xs, keep, h => by
    obtain ⟨vs, e, r⟩ := h
    exact ⟨vs, keep (fun z => nomatch z) _ e, r.mono al hN fr⟩
  | .dct t kvs, keep, h => by
    obtain ⟨ws, e, r⟩ := h
    exact ⟨ws, e.mono (keep (fun z => nomatch z)), r.mono al hN fr⟩
  | .ins c fs, keep, h => by
    obtain ⟨dx, vs, e, r⟩ := h
    exact ⟨dx, vs, keep (fun z => nomatch z) _ e, r.mono al hN fr⟩
theorem CellOk.there {a : Addr} : ∀ {c : Cell}, CellOk W α F N H a c → c ≠ .dead → ∃ o, H a = some o
  | .dead, _, h => absurd rfl h
  | .lst _, h, _ => by obtain ⟨vs, e, _⟩ := h; exact ⟨_, e⟩
  | .dct _ _, h, _ => by obtain ⟨ws, e, _⟩ := h; exact e.there
  | .ins _ _, h, _ => by obtain ⟨_, vs, e, _⟩ := h; exact ⟨_, e⟩
theorem Sr.there (s : Sr W α F S H) {n : Nat} (l : Live S n) : ∃ o, H (α n) = some o := by
  obtain ⟨c, e, h⟩ := l
  exact (s.cel n c e).there h

/-! ### the ways in which a state goes on -/
/-- a new frozen object -/
theorem Sr.newF (s : Sr W α F S H) {p : Addr} {o : HO} (hp : H p = none) : Sr W α (upd F p o) S (upd H p o) ∧ Ext α F S H α (upd F p o) S (upd H p o) := by
  have np : ∀ a u, H a = some u → a ≠ p := fun a u h => ne_of_none h hp
  have nf : ∀ a u, F a = some u → a ≠ p := fun a u h => np a u (s.sub a u h)
  have fr : Sub F (upd F p o) := fun a u h => by rw [upd_ne (nf a u h)]; exact h
  refine ⟨⟨fun a u h => ?_, fun n l => ?_, s.inj, fun n c e => ?_⟩, ⟨fun _ _ => rfl, Nat.le_refl _, fr, fun a u h _ => ?_, fun n h1 h2 => absurd (Nat.lt_of_lt_of_le h2 h1) (Nat.lt_irrefl _), fun _ _ h => h, fun a h => ?_, fun a u h h' => ?_⟩⟩
  · by_cases e : a = p
    · subst e; rw [upd_same] at h ⊢; exact h
    · rw [upd_ne e] at h ⊢; exact s.sub a u h
  · obtain ⟨u, h⟩ := s.there l
    rw [upd_ne (np _ u h)]
    exact s.sep n l
  · exact (s.cel n c e).mono (fun _ _ => rfl) (Nat.le_refl _) fr fun _ u h => by rw [upd_ne (np _ u h)]; exact h
  · rw [upd_ne (np a u h)]; exact h
  · by_cases e : a = p
    · subst e; rw [upd_same] at h; cases h
    · rw [upd_ne e] at h; exact h
  · by_cases e : a = p
    · subst e; exact .inl hp
    · rw [upd_ne e, h'] at h; cases h
theorem live_append {S : Sto} {c : Cell} {n : Nat} (h : Live (S ++ [c]) n) (hn : n ≠ S.length) : Live S n := by
  obtain ⟨c', e, hc⟩ := h
  have hl : n < (S ++ [c]).length := (List.getElem?_eq_some_iff.mp e).1
  rw [List.length_append, List.length_singleton] at hl
  rw [List.getElem?_append_left (by omega)] at e
  exact ⟨c', e, hc⟩
def adr (α : Nat → Addr) (n : Nat) (p : Addr) : Nat → Addr := fun m => if m = n then p else α m
theorem adr_same {n : Nat} {p : Addr} : adr α n p n = p := if_pos rfl
theorem adr_ne {n m : Nat} {p : Addr} (h : m ≠ n) : adr α n p m = α m := if_neg h
/-- a new cell -/
theorem Sr.newC (s : Sr W α F S H) {p : Addr} {o : HO} (hp : H p = none) {c : Cell} (hc : CellOk W (adr α S.length p) F (S.length + 1) (upd H p o) p c) :
    Sr W (adr α S.length p) F (S ++ [c]) (upd H p o) ∧ Ext α F S H (adr α S.length p) F (S ++ [c]) (upd H p o) := by
  have np : ∀ a u, H a = some u → a ≠ p := fun a u h => ne_of_none h hp
  have al : ∀ n, n < S.length → adr α S.length p n = α n := fun n h => adr_ne (Nat.ne_of_lt h)
  have len : (S ++ [c]).length = S.length + 1 := by simp
  have ap : ∀ n, Live S n → α n ≠ p := fun n l => by obtain ⟨u, h⟩ := s.there l; exact np _ u h
  refine ⟨⟨fun a u h => ?_, fun n l => ?_, fun m n lm ln e => ?_, fun n c' e => ?_⟩, ⟨al, by rw [len]; exact Nat.le_succ _, Sub.refl F, fun a u h _ => ?_, fun n h1 h2 => ?_, fun n h l => live_append l (Nat.ne_of_lt h), fun a h => ?_, fun a u h h' => by rw [h'] at h; cases h⟩⟩
  · rw [upd_ne (np a u (s.sub a u h))]; exact s.sub a u h
  · by_cases e : n = S.length
    · subst e
      rw [adr_same]
      cases q : F p with
      | none => rfl
      | some u => exact absurd rfl (np p u (s.sub p u q))
    · rw [adr_ne e]; exact s.sep n (live_append l e)
  · by_cases em : m = S.length <;> by_cases en : n = S.length
    · rw [em, en]
    · rw [em, adr_same, adr_ne en] at e
      exact absurd e.symm (ap n (live_append ln en))
    · rw [en, adr_same, adr_ne em] at e
      exact absurd e (ap m (live_append lm em))
    · rw [adr_ne em, adr_ne en] at e
      exact s.inj m n (live_append lm em) (live_append ln en) e
  · rw [len]
    by_cases en : n = S.length
    · subst en
      rw [List.getElem?_append_right (Nat.le_refl _)] at e
      simp at e
      subst e
      rw [adr_same]
      exact hc
    · have hl : n < (S ++ [c]).length := (List.getElem?_eq_some_iff.mp e).1
      rw [len] at hl
      rw [List.getElem?_append_left (by omega)] at e
      rw [adr_ne en]
      exact (s.cel n c' e).mono al (Nat.le_succ _) (Sub.refl F) fun _ u h => by rw [upd_ne (np _ u h)]; exact h
  · rw [upd_ne (np a u h)]; exact h
  · have e : n = S.length := by rw [len] at h2; omega
    subst e
    rw [adr_same]; exact hp
  · by_cases e : a = p
    · subst e; rw [upd_same] at h; cases h
    · rw [upd_ne e] at h; exact h
theorem live_set {S : Sto} {c : Cell} {n m : Nat} (hn : Live S n) (h : Live (S.set n c) m) : Live S m := by
  obtain ⟨c', e, hc⟩ := h
  by_cases q : n = m
  · exact q ▸ hn
  · rw [List.getElem?_set_ne q] at e
    exact ⟨c', e, hc⟩
/-- a cell's object changes -/
theorem Sr.setC (s : Sr W α F S H) {n : Nat} (hl : Live S n) {o : HO} {c : Cell} (hc : CellOk W α F S.length (upd H (α n) o) (α n) c) : Sr W α F (S.set n c) (upd H (α n) o) ∧ Ext α F S H α F (S.set n c) (upd H (α n) o) := by
  have len : (S.set n c).length = S.length := by simp
  refine ⟨⟨fun a u h => ?_, fun m l => s.sep m (live_set hl l), fun m k lm lk => s.inj m k (live_set hl lm) (live_set hl lk), fun m c' e => ?_⟩, ⟨fun _ _ => rfl, by rw [len]; exact Nat.le_refl _, Sub.refl F, fun a u h k => ?_, fun m h1 h2 => absurd (Nat.lt_of_lt_of_le h2 (by rw [len]; exact h1)) (Nat.lt_irrefl _), fun m _ l => live_set hl l, fun a h => ?_, fun a u h h' => by rw [h'] at h; cases h⟩⟩
  · have ne : a ≠ α n := fun e => by rw [e, s.sep n hl] at h; cases h
    rw [upd_ne ne]; exact s.sub a u h
  · rw [len]
    by_cases q : n = m
    · subst q
      rw [List.getElem?_set_self hl.lt] at e
      cases e
      exact hc
    · rw [List.getElem?_set_ne q] at e
      exact (s.cel m c' e).mono (fun _ _ => rfl) (Nat.le_refl _) (Sub.refl F) fun d u h => by
        rw [upd_ne fun z => q (s.inj m n ⟨c', e, d⟩ hl z).symm]; exact h
  · rw [upd_ne fun z => k n hl z.symm]; exact h
  · by_cases e : a = α n
    · subst e; rw [upd_same] at h; cases h
    · rw [upd_ne e] at h; exact h
/-- a cell is shut, its object is data from now on -/
theorem Sr.frzO (s : Sr W α F S H) {n : Nat} {c : Cell} {o : HO} (hn : S[n]? = some c) (hc : c ≠ .dead) (hv : H (α n) = some o) :
    Sr W α (upd F (α n) o) (S.set n .dead) H ∧ Ext α F S H α (upd F (α n) o) (S.set n .dead) H ∧ Sub F (upd F (α n) o) := by
  have hl : Live S n := ⟨_, hn, hc⟩
  have len : (S.set n .dead).length = S.length := by simp
  have fn : F (α n) = none := s.sep n hl
  have fr : Sub F (upd F (α n) o) := fun a u h => by rw [upd_ne (ne_of_none h fn)]; exact h
  have lv : ∀ m, Live (S.set n .dead) m → Live S m ∧ m ≠ n := fun m l => ⟨live_set hl l, fun e => by
    obtain ⟨c, q, hc⟩ := l
    rw [e, List.getElem?_set_self hl.lt] at q
    exact hc (Option.some.inj q).symm⟩
  refine ⟨⟨fun a u h => ?_, fun m l => ?_, fun m k lm lk => s.inj m k (lv m lm).1 (lv k lk).1, fun m c e => ?_⟩, ⟨fun _ _ => rfl, by rw [len]; exact Nat.le_refl _, fr, fun a u h _ => h, fun m h1 h2 => absurd (Nat.lt_of_lt_of_le h2 (by rw [len]; exact h1)) (Nat.lt_irrefl _), fun m _ l => (lv m l).1, fun _ h => h, fun a u h h' => ?_⟩, fr⟩
  · by_cases e : a = α n
    · subst e; rw [upd_same] at h; cases h; exact hv
    · rw [upd_ne e] at h; exact s.sub a u h
  · obtain ⟨l1, ne⟩ := lv m l
    rw [upd_ne fun z => ne (s.inj m n l1 hl z)]
    exact s.sep m l1
  · rw [len]
    by_cases q : n = m
    · subst q
      rw [List.getElem?_set_self hl.lt] at e
      cases e
      trivial
    · rw [List.getElem?_set_ne q] at e
      exact (s.cel m c e).mono (fun _ _ => rfl) (Nat.le_refl _) fr fun _ _ h => h
  · by_cases e : a = α n
    · exact .inr ⟨n, hl, e.symm⟩
    · rw [upd_ne e, h'] at h; cases h
/-- a cell's list is shut and stands as data -/
theorem Sr.frzC (s : Sr W α F S H) {n : Nat} {xs : List Vl} {ds : List D} (hn : S[n]? = some (.lst xs)) (hp : Z.pures xs = some ds) :
    ∃ F', Sr W α F' (S.set n .dead) H ∧ Ext α F S H α F' (S.set n .dead) H ∧ Rp W F' (.lst ds) (.ref (α n)) := by
  obtain ⟨vs, hv, r⟩ := s.cel n _ hn
  obtain ⟨s', x', fr⟩ := s.frzO hn (fun z => nomatch z) hv
  exact ⟨_, s', x', α n, vs, rfl, upd_same, Rps.mono fr (r.pures hp)⟩
theorem DctR.at {H : Hp} {a : Addr} {t : Bool} {ks : List D} {ws : List V} (r : DctR H a t ks ws) : ∃ o, H a = some o ∧ ∀ H' : Hp, H' a = some o → DctR H' a t ks ws := by
  rcases r with ⟨e, kk, h1, h2, h3⟩ | ⟨e, kk, h1, h2, h3⟩
  · exact ⟨_, h3, fun H' h => .inl ⟨e, kk, h1, h2, h⟩⟩
  · exact ⟨_, h3, fun H' h => .inr ⟨e, kk, h1, h2, h⟩⟩
theorem Sr.frzD (s : Sr W α F S H) {n : Nat} {t : Bool} {kvs : List (D × Vl)} {ds : List D} (hn : S[n]? = some (.dct t kvs)) (hp : Z.pures (kvs.map (·.2)) = some ds) :
    ∃ F', Sr W α F' (S.set n .dead) H ∧ Ext α F S H α F' (S.set n .dead) H ∧ Rp W F' (.dct t (kvs.map (·.1)) ds) (.ref (α n)) := by
  obtain ⟨ws, hd, r⟩ := s.cel n _ hn
  obtain ⟨o, ho, go⟩ := hd.at
  obtain ⟨s', x', fr⟩ := s.frzO hn (fun z => nomatch z) ho
  exact ⟨_, s', x', α n, ws, rfl, go _ upd_same, Rps.mono fr (r.pures hp)⟩
/-- what freeze gives -/
theorem Sr.freeze (s : Sr W α F S H) {v : Vl} {w : V} (r : VlR W α F S.length v w) {d : D} {S' : Sto} (h : Z.freeze v S = some (d, S')) :
    ∃ F', Sr W α F' S' H ∧ Ext α F S H α F' S' H ∧ Rp W F' d w := by
  cases v with
  | d x =>
    cases h
    exact ⟨F, s, Ext.refl, r⟩
  | p n =>
    obtain ⟨e, hl⟩ := (show w = .ref (α n) ∧ n < S.length from r)
    subst e
    unfold Z.freeze at h
    dsimp only at h
    cases hn : S[n]? with
    | none => rw [hn] at h; cases h
    | some c =>
      rw [hn] at h
      cases c with
      | lst xs =>
        dsimp only at h
        cases hp : Z.pures xs with
        | none => rw [hp] at h; cases h
        | some ds =>
          rw [hp] at h
          cases h
          exact s.frzC hn hp
      | dct t kvs =>
        dsimp only at h
        cases hp : Z.pures (kvs.map (·.2)) with
        | none => rw [hp] at h; cases h
        | some ds =>
          rw [hp] at h
          cases h
          exact s.frzD hn hp
      | _ => cases h
/-- a cell is shut for a while -/
theorem Sr.lock (s : Sr W α F S H) {n : Nat} {c : Cell} (hn : S[n]? = some c) : Sr W α F (S.set n .dead) H := by
  have len : (S.set n .dead).length = S.length := by simp
  have lv : ∀ m, Live (S.set n .dead) m → Live S m := fun m l => by
    obtain ⟨c', q, hc⟩ := l
    by_cases e : n = m
    · subst e
      rw [List.getElem?_set_self (List.getElem?_eq_some_iff.mp hn).1] at q
      exact absurd (Option.some.inj q).symm hc
    · rw [List.getElem?_set_ne e] at q
      exact ⟨c', q, hc⟩
  refine ⟨s.sub, fun m l => s.sep m (lv m l), fun m k lm lk => s.inj m k (lv m lm) (lv k lk), fun m c' e => ?_⟩
  rw [len]
  by_cases q : n = m
  · subst q
    rw [List.getElem?_set_self (List.getElem?_eq_some_iff.mp hn).1] at e
    cases e
    trivial
  · rw [List.getElem?_set_ne q] at e
    exact s.cel m c' e
/-- an object that is ours neither as data nor as a cell -/
structure Oth (α : Nat → Addr) (F : Hp) (S : Sto) (d0 : Addr) : Prop where
  f : F d0 = none
  c : ∀ n, Live S n → α n ≠ d0
theorem Sr.oth0 (s : Sr W α F S H) {d0 : Addr} (h : H d0 = none) : Oth α F S d0 :=
  ⟨(by
    cases q : F d0 with
    | none => rfl
    | some u => rw [s.sub d0 u q] at h; cases h), fun n l e => (by
    obtain ⟨u, q⟩ := s.there l
    rw [e, h] at q; cases q)⟩
theorem Oth.ext (o : Oth α F S d0) (x : Ext α F S H α' F' S' H') {u : HO} (h : H d0 = some u) : Oth α' F' S' d0 ∧ H' d0 = some u := by
  refine ⟨⟨?_, fun n l e => ?_⟩, x.frame d0 u h o.c⟩
  · cases q : F' d0 with
    | none => rfl
    | some v =>
      rcases x.fz d0 v q o.f with z | ⟨n, l, e⟩
      · rw [h] at z; cases z
      · exact absurd e (o.c n l)
  · by_cases hn : n < S.length
    · rw [x.al n hn] at e
      exact o.c n (x.lv n hn l) e
    · have := x.new n (Nat.le_of_not_lt hn) l.lt
      rw [e, h] at this; cases this
theorem Sr.oth (s : Sr W α F S H) {d0 : Addr} {u : HO} (o : Oth α F S d0) : Sr W α F S (upd H d0 u) := by
  refine ⟨fun a v h => ?_, s.sep, s.inj, fun n c e => ?_⟩
  · have ne : a ≠ d0 := fun z => by rw [z, o.f] at h; cases h
    rw [upd_ne ne]; exact s.sub a v h
  · exact (s.cel n c e).mono (fun _ _ => rfl) (Nat.le_refl _) (Sub.refl F) fun d v h => by rw [upd_ne (o.c n ⟨c, e, d⟩)]; exact h
/-- from a state in which d0 was not there -/
theorem Ext.oth (x : Ext α F S H α' F' S' H') {d0 : Addr} {u : HO} (h : H d0 = none) : Ext α F S H α' F' S' (upd H' d0 u) := by
  refine ⟨x.al, x.len, x.fr, fun a o q k => ?_, x.new, x.lv, fun a q => ?_, x.fz⟩
  · rw [upd_ne (ne_of_none q h)]; exact x.frame a o q k
  · by_cases e : a = d0
    · rw [e]; exact h
    · rw [upd_ne e] at q; exact x.dom a q
/-- it becomes data -/
theorem Sr.adoptF (s : Sr W α F S H) {d0 : Addr} {u : HO} (o : Oth α F S d0) (h : H d0 = some u) : Sr W α (upd F d0 u) S H := by
  have fr : Sub F (upd F d0 u) := fun a v q => by rw [upd_ne (ne_of_none q o.f)]; exact q
  refine ⟨fun a v q => ?_, fun n l => ?_, s.inj, fun n c e => (s.cel n c e).mono (fun _ _ => rfl) (Nat.le_refl _) fr fun _ _ h => h⟩
  · by_cases e : a = d0
    · subst e; rw [upd_same] at q; cases q; exact h
    · rw [upd_ne e] at q; exact s.sub a v q
  · rw [upd_ne (o.c n l)]; exact s.sep n l
theorem Ext.adoptF (x : Ext α F S H α' F' S' H') {d0 : Addr} {u : HO} (h : H d0 = none) (o : F' d0 = none) : Ext α F S H α' (upd F' d0 u) S' H' := by
  refine ⟨x.al, x.len, fun a v q => ?_, x.frame, x.new, x.lv, x.dom, fun a v q q' => ?_⟩
  · rw [upd_ne (ne_of_none (x.fr a v q) o)]; exact x.fr a v q
  · by_cases e : a = d0
    · rw [e]; exact .inl h
    · rw [upd_ne e] at q; exact x.fz a v q q'
/-- it becomes a cell -/
theorem Sr.adoptC (s : Sr W α F S H) {d0 : Addr} {u : HO} (o : Oth α F S d0) (h : H d0 = some u) {c : Cell} (hc : CellOk W (adr α S.length d0) F (S.length + 1) H d0 c) : Sr W (adr α S.length d0) F (S ++ [c]) H := by
  have al : ∀ n, n < S.length → adr α S.length d0 n = α n := fun n h => adr_ne (Nat.ne_of_lt h)
  have len : (S ++ [c]).length = S.length + 1 := by simp
  refine ⟨s.sub, fun n l => ?_, fun m n lm ln e => ?_, fun n c' e => ?_⟩
  · by_cases e : n = S.length
    · subst e; rw [adr_same]; exact o.f
    · rw [adr_ne e]; exact s.sep n (live_append l e)
  · by_cases em : m = S.length <;> by_cases en : n = S.length
    · rw [em, en]
    · rw [em, adr_same, adr_ne en] at e
      exact absurd e.symm (o.c n (live_append ln en))
    · rw [en, adr_same, adr_ne em] at e
      exact absurd e (o.c m (live_append lm em))
    · rw [adr_ne em, adr_ne en] at e
      exact s.inj m n (live_append lm em) (live_append ln en) e
  · rw [len]
    by_cases en : n = S.length
    · subst en
      rw [List.getElem?_append_right (Nat.le_refl _)] at e
      simp at e
      subst e
      rw [adr_same]
      exact hc
    · have hl : n < (S ++ [c]).length := (List.getElem?_eq_some_iff.mp e).1
      rw [len] at hl
      rw [List.getElem?_append_left (by omega)] at e
      rw [adr_ne en]
      exact (s.cel n c' e).mono al (Nat.le_succ _) (Sub.refl F) fun _ u h => h
theorem Ext.adoptC (x : Ext α F S H α' F' S' H') {d0 : Addr} (h : H d0 = none) {c : Cell} : Ext α F S H (adr α' S'.length d0) F' (S' ++ [c]) H' := by
  refine ⟨fun n hn => ?_, by rw [List.length_append]; exact Nat.le_trans x.len (Nat.le_add_right _ _), x.fr, x.frame, fun n h1 h2 => ?_, fun n hn l => x.lv n hn (live_append l ?_), x.dom, x.fz⟩
  · rw [adr_ne (Nat.ne_of_lt (Nat.lt_of_lt_of_le hn x.len))]; exact x.al n hn
  · by_cases e : n = S'.length
    · rw [e, adr_same]; exact h
    · rw [adr_ne e]
      exact x.new n h1 (by rw [List.length_append, List.length_singleton] at h2; omega)
  · exact Nat.ne_of_lt (Nat.lt_of_lt_of_le hn x.len)
/-- behind a lock -/
theorem Sr.unlock (s : Sr W α F S H) {n : Nat} {c : Cell} (hn : S[n]? = some c) (x : Ext α F (S.set n .dead) H α' F' S' H') (s' : Sr W α' F' S' H') (hd : c ≠ .dead) : Sr W α' F' (S'.set n c) H' ∧ Ext α F S H α' F' (S'.set n c) H' := by
  have hl : n < S.length := (List.getElem?_eq_some_iff.mp hn).1
  have ln : Live S n := ⟨c, hn, hd⟩
  have len : (S.set n .dead).length = S.length := by simp
  have hl' : n < S'.length := Nat.lt_of_lt_of_le hl (by rw [← len]; exact x.len)
  have nd : ¬ Live (S.set n .dead) n := fun ⟨c', q, h⟩ => by
    rw [List.getElem?_set_self hl] at q
    exact h (Option.some.inj q).symm
  have lk : ∀ m, Live (S.set n .dead) m → Live S m ∧ m ≠ n := fun m l => by
    refine ⟨?_, fun e => nd (e ▸ l)⟩
    obtain ⟨c', q, h⟩ := l
    by_cases e : n = m
    · subst e; rw [List.getElem?_set_self hl] at q; exact absurd (Option.some.inj q).symm h
    · rw [List.getElem?_set_ne e] at q; exact ⟨c', q, h⟩
  have al : α' n = α n := x.al n (by rw [len]; exact hl)
  obtain ⟨u, hu⟩ := s.there ln
  have noL : ∀ m, Live (S.set n .dead) m → α m ≠ α n := fun m l z => (lk m l).2 (s.inj m n (lk m l).1 ln z)
  have hu' : H' (α n) = some u := x.frame _ u hu noL
  have nL' : ∀ m, Live S' m → m ≠ n → α' m ≠ α n := fun m l hm z => by
    by_cases hm' : m < S.length
    · rw [x.al m (by rw [len]; exact hm')] at z
      exact noL m (x.lv m (by rw [len]; exact hm') l) z
    · have := x.new m (by rw [len]; exact Nat.le_of_not_lt hm') l.lt
      rw [z, hu] at this; cases this
  have cases' : ∀ m, Live (S'.set n c) m → m = n ∨ (m ≠ n ∧ Live S' m) := fun m l => by
    by_cases e : n = m
    · exact .inl e.symm
    · obtain ⟨c', q, h⟩ := l
      rw [List.getElem?_set_ne e] at q
      exact .inr ⟨fun z => e z.symm, c', q, h⟩
  refine ⟨⟨s'.sub, fun m l => ?_, fun m k lm lk' e => ?_, fun m c' e => ?_⟩, ⟨fun m h => x.al m (by rw [len]; exact h), by rw [List.length_set, ← len]; exact x.len, x.fr, fun a o h k => x.frame a o h fun m l => k m (lk m l).1, fun m h1 h2 => x.new m (by rw [len]; exact h1) (by rw [List.length_set] at h2; exact h2), fun m h l => ?_, x.dom, fun a o h h' => ?_⟩⟩
  · rcases cases' m l with rfl | ⟨hm, l⟩
    · rw [al]
      cases q : F' (α m) with
      | none => rfl
      | some v =>
        rcases x.fz _ v q (s.sep m ln) with z | ⟨k, lk', e⟩
        · rw [hu] at z; cases z
        · exact absurd e (noL k lk')
    · exact s'.sep m l
  · rcases cases' m lm with z | ⟨hm, lm2⟩ <;> rcases cases' k lk' with z' | ⟨hk, lk2⟩
    · rw [z, z']
    · rw [z, al] at e; exact absurd e.symm (nL' k lk2 hk)
    · rw [z', al] at e; exact absurd e (nL' m lm2 hm)
    · exact s'.inj m k lm2 lk2 e
  · rw [List.length_set]
    by_cases e' : n = m
    · subst e'
      rw [List.getElem?_set_self hl'] at e
      cases e
      rw [al]
      exact (s.cel n c hn).mono (fun m h => x.al m (by rw [len]; exact h)) (by rw [← len]; exact x.len) x.fr fun _ v h => x.frame _ v h noL
    · rw [List.getElem?_set_ne e'] at e
      exact s'.cel m c' e
  · rcases cases' m l with rfl | ⟨hm, l⟩
    · exact ln
    · exact (lk m (x.lv m (by rw [len]; exact h) l)).1
  · rcases x.fz a o h h' with z | ⟨k, lk', e⟩
    · exact .inl z
    · exact .inr ⟨k, (lk k lk').1, e⟩
end
end Z
end

section
set_option maxHeartbeats 1000000
/-! Z5: what a reading promises; expressions. -/
namespace Z
open PySem L2

/-- an exception: its class, its own dict -/
def ExR (W : Wd) (F H : Hp) (e : Exn) (c : Value) (d : Option Addr) : Prop :=
  c = .ref (W.ca e.cls) ∧ match d with
    | none => e.fs = []
    | some a => ∃ vs, H a = some (.xd ((e.fs.map fun p => W.nm p.1).zip vs)) ∧ Rps W F (e.fs.map (·.2)) vs
/-- what is wanted of an answer holds wherever it may lie -/
def Post {τ β : Type} (W : Wd) (E : XK) (Rel : (Nat → Addr) → Hp → Sto → Hp → τ → β → Prop) (α : Nat → Addr) (F : Hp) (S : Sto) (H : Hp) (r : Res τ) (Q : β → Hp → Prop) : Prop :=
  match r with
  | .ok a S' => ∀ w α' F' H', Ext α F S H α' F' S' H' → Sr W α' F' S' H' → Rel α' F' S' H' a w → Q w H'
  | .exc e S' => ∀ c d α' F' H', Ext α F S H α' F' S' H' → Sr W α' F' S' H' → ExR W F' H' e c d → E c d H'
  | .bad => False
def RelE {β : Type} (_ : Nat → Addr) (_ : Hp) (_ : Sto) (_ : Hp) (a b : β) : Prop := a = b
abbrev VlX (W : Wd) : (Nat → Addr) → Hp → Sto → Hp → Vl → V → Prop := fun α F S _ x v => VlR W α F S.length x v
abbrev VlXs (W : Wd) : (Nat → Addr) → Hp → Sto → Hp → List Vl → List V → Prop := fun α F S _ x v => VlRs W α F S.length x v
/-- the names' values -/
structure EnvR (W : Wd) (α : Nat → Addr) (F : Hp) (N : Nat) (ρ : Env) (σ : L2.St) : Prop where
  len : ρ.length = σ.length
  at_ : ∀ (i : Nat) (v : Vl), ρ[i]? = some (some v) → ∃ w, σ[i]? = some (some w) ∧ VlR W α F N v w

section
variable {W : Wd} {E : XK} {α α' : Nat → Addr} {F F' : Hp} {S S' : Sto} {H H' : Hp} {τ τ' β β' : Type}
theorem EnvR.ext (x : Ext α F S H α' F' S' H') {ρ : Env} {σ : L2.St} (r : EnvR W α F S.length ρ σ) : EnvR W α' F' S'.length ρ σ :=
  ⟨r.len, fun i v h => let ⟨w, e, q⟩ := r.at_ i v h; ⟨w, e, q.ext x⟩⟩
theorem EnvR.set {N : Nat} {ρ : Env} {σ : L2.St} (r : EnvR W α F N ρ σ) {v : Vl} {w : V} (q : VlR W α F N v w) (i : Nat) : EnvR W α F N (ρ.set i (some v)) (σ.set i (some w)) := by
  refine ⟨by simp [r.len], fun j u h => ?_⟩
  by_cases e : i = j
  · subst e
    have hl : i < ρ.length := by
      by_cases hl : i < ρ.length
      · exact hl
      · rw [List.getElem?_eq_none (by simpa using hl)] at h; cases h
    rw [List.getElem?_set_self hl] at h
    cases h
    exact ⟨w, by rw [List.getElem?_set_self (by rw [← r.len]; exact hl)], q⟩
  · rw [List.getElem?_set_ne e] at h
    rw [List.getElem?_set_ne e]
    exact r.at_ j u h
theorem EnvR.setNone {N : Nat} {ρ : Env} {σ : L2.St} (r : EnvR W α F N ρ σ) (i : Nat) : EnvR W α F N (ρ.set i none) (σ.set i none) := by
  refine ⟨by simp [r.len], fun j u h => ?_⟩
  by_cases e : i = j
  · subst e
    by_cases hl : i < ρ.length
    · rw [List.getElem?_set_self hl] at h; cases h
    · rw [List.getElem?_eq_none (by simpa using hl)] at h; cases h
  · rw [List.getElem?_set_ne e] at h
    rw [List.getElem?_set_ne e]
    exact r.at_ j u h
theorem EnvR.wipe {N : Nat} {ρ : Env} {σ : L2.St} (r : EnvR W α F N ρ σ) : ∀ own : List Nat, EnvR W α F N (Z.wipe ρ own) (L2.wipe σ own)
  | [] => r
  | i :: is => (EnvR.wipe r is).setNone i

variable {Rel : (Nat → Addr) → Hp → Sto → Hp → τ → β → Prop} {Rel' : (Nat → Addr) → Hp → Sto → Hp → τ' → β' → Prop}
theorem Post.imp {r : Res τ} {Q Q' : β → Hp → Prop} (p : Post W E Rel α F S H r Q) (h : ∀ w H', Q w H' → Q' w H') : Post W E Rel α F S H r Q' := by
  cases r with
  | ok a S' => exact fun w α' F' H' x s q => h _ _ (p w α' F' H' x s q)
  | exc e S' => exact p
  | bad => exact p
theorem Post.rebase {r : Res τ} {Q : β → Hp → Prop} (x : Ext α F S H α' F' S' H') (p : Post W E Rel α F S H r Q) : Post W E Rel α' F' S' H' r Q := by
  cases r with
  | ok a S'' => exact fun w α2 F2 H2 y s q => p w α2 F2 H2 (x.trans y) s q
  | exc e S'' => exact fun c d α2 F2 H2 y s q => p c d α2 F2 H2 (x.trans y) s q
  | bad => exact p
/-- the middle of two pieces of work -/
def Mid (W : Wd) (E : XK) (Rel : (Nat → Addr) → Hp → Sto → Hp → τ → β → Prop) (Rel' : (Nat → Addr) → Hp → Sto → Hp → τ' → β' → Prop) (α : Nat → Addr) (F : Hp) (S : Sto) (H : Hp) (g : τ → Sto → Res τ') (Q : β' → Hp → Prop) (w : β) (H1 : Hp) : Prop :=
  ∃ α1 F1 a S1, Ext α F S H α1 F1 S1 H1 ∧ Sr W α1 F1 S1 H1 ∧ Rel α1 F1 S1 H1 a w ∧ Post W E Rel' α1 F1 S1 H1 (g a S1) Q
theorem Post.bind {r : Res τ} {g : τ → Sto → Res τ'} {Q : β' → Hp → Prop} (p : Post W E Rel' α F S H (r.bind g) Q) : Post W E Rel α F S H r (Mid W E Rel Rel' α F S H g Q) := by
  cases r with
  | ok a S' => exact fun w α' F' H' x s q => ⟨α', F', a, S', x, s, q, Post.rebase x p⟩
  | exc e S' => exact p
  | bad => exact p
theorem Post.here {a : τ} {w : β} {Q : β → Hp → Prop} (p : Post W E Rel α F S H (.ok a S) Q) (s : Sr W α F S H) (q : Rel α F S H a w) : Q w H := p w α F H Ext.refl s q
end

/-! ### the judgements -/
def tD (W : Wd) (E : XK) (f : Env → Sto → Res Vl) : TE := fun σ H Q => ∃ α F ρ S, Sr W α F S H ∧ EnvR W α F S.length ρ σ ∧ Post W E (VlX W) α F S H (f ρ S) Q
def tDT (W : Wd) (E : XK) (f : Env → Sto → Res Bool) : TT := fun σ H Q => ∃ α F ρ S, Sr W α F S H ∧ EnvR W α F S.length ρ σ ∧ Post W E RelE α F S H (f ρ S) Q
def tDA (W : Wd) (E : XK) (f : Env → Sto → Res (List Vl)) : TA := fun σ H Q => ∃ α F ρ S, Sr W α F S H ∧ EnvR W α F S.length ρ σ ∧ Post W E (VlXs W) α F S H (f ρ S) Q
def tDO (W : Wd) (E : XK) (f : Env → Sto → Res (Option Int)) : TO := fun σ H Q => ∃ α F ρ S, Sr W α F S H ∧ EnvR W α F S.length ρ σ ∧ Post W E RelE α F S H (f ρ S) Q

theorem peI {X : Cx} {e : Expr} {t t' : TE} (h : PE X e t) (k : ∀ σ H Q, t' σ H Q → t σ H Q) : PE X e t' := ⟨fun pins s σ H Q I q => h.run pins s σ H Q I (k σ H Q q)⟩
theorem ptI {X : Cx} {e : Expr} {t t' : TT} (h : PT X e t) (k : ∀ σ H Q, t' σ H Q → t σ H Q) : PT X e t' := ⟨fun pins s σ H Q I q => h.run pins s σ H Q I (k σ H Q q)⟩
theorem paI {X : Cx} {e : List Expr} {t t' : TA} (h : PA X e t) (k : ∀ σ H Q, t' σ H Q → t σ H Q) : PA X e t' := ⟨fun pos pins s σ H Q I q => h.run pos pins s σ H Q I (k σ H Q q)⟩
theorem poI {X : Cx} {e : Option Expr} {t t' : TO} (h : PO X e t) (k : ∀ σ H Q, t' σ H Q → t σ H Q) : PO X e t' := ⟨fun pins s σ H Q I q => h.run pins s σ H Q I (k σ H Q q)⟩

section
variable {X : Cx} {W : Wd} {E : XK} {a b e : Expr} {pos : Pos} {fa fb : Env → Sto → Res Vl}

/-! ### the end of an operation -/
section
variable {α : Nat → Addr} {F : Hp} {S : Sto} {H : Hp} {Q : VK}
/-- the answer is data that is there -/
theorem fin_d {x : D} {w : V} (p : Post W E (VlX W) α F S H (.ok (.d x) S) Q) (s : Sr W α F S H) (q : Rp W F x w) : Q w H := p.here s q
/-- the answer is a new list or tuple -/
theorem fin_tup {ds : List D} {vs : List V} (p : Post W E (VlX W) α F S H (.ok (.d (.tup ds)) S) Q) (s : Sr W α F S H) (r : Rps W F ds vs) {l : Addr} (hl : H l = none) : Q (.ref l) (upd H l (.tup vs)) := by
  obtain ⟨s', x⟩ := s.newF (o := .tup vs) hl
  exact p _ α _ _ x s' ⟨l, vs, rfl, upd_same, Rps.mono x.fr r⟩
theorem fin_lst {ds : List D} {vs : List V} (p : Post W E (VlX W) α F S H (.ok (.d (.lst ds)) S) Q) (s : Sr W α F S H) (r : Rps W F ds vs) {l : Addr} (hl : H l = none) : Q (.ref l) (upd H l (.lst vs)) := by
  obtain ⟨s', x⟩ := s.newF (o := .lst vs) hl
  exact p _ α _ _ x s' ⟨l, vs, rfl, upd_same, Rps.mono x.fr r⟩
theorem fin_cell {xs : List Vl} {vs : List V} (p : Post W E (VlX W) α F S H (.ok (.p S.length) (S ++ [.lst xs])) Q) (s : Sr W α F S H) (r : VlRs W α F S.length xs vs) {l : Addr} (hl : H l = none) : Q (.ref l) (upd H l (.lst vs)) := by
  obtain ⟨s', x⟩ := s.newC (o := .lst vs) (c := .lst xs) hl ⟨vs, upd_same, r.mono (fun n h => adr_ne (Nat.ne_of_lt h)) (Nat.le_succ _) (Sub.refl F)⟩
  exact p _ _ _ _ x s' ⟨by rw [adr_same], by simp⟩
theorem fin_new {cell : Bool} {xs : List Vl} {vs : List V} (p : Post W E (VlX W) α F S H (newList cell xs S) Q) (s : Sr W α F S H) (r : VlRs W α F S.length xs vs) : vs.length ≤ sizeLine ∧ ∀ l, H l = none → Q (.ref l) (upd H l (.lst vs)) := by
  unfold newList at p
  split at p
  · rename_i hz
    refine ⟨by rw [← r.length, sizeLine_eq]; exact of_decide_eq_true hz, fun l hl => ?_⟩
    split at p
    · exact fin_cell p s r hl
    · split at p
      · rename_i ds hd
        exact fin_lst p s (r.pures hd) hl
      · exact p.elim
  · exact p.elim
end

/-! ### names, constants -/
theorem de_var {i : Nat} {x : Str} (hN : X.N[i]? = some x) (hv : Vis X.env.scope x) (hd : (x == ("__debug__" : Str)) = false) (hcd : (x == ("__classdict__" : Str)) = false) :
    PE X (.Name x pos) (tD W E fun ρ S => pick ((ρ[i]?).bind id) S) := by
  refine peI (pe_var hN hv hd hcd) fun σ H Q ⟨α, F, ρ, S, s, er, p⟩ => ?_
  have p : Post W E (VlX W) α F S H (pick ((ρ[i]?).bind id) S) Q := p
  cases q : (ρ[i]?).bind id with
  | none => rw [q] at p; exact p.elim
  | some v =>
    rw [q] at p
    have q' : ρ[i]? = some (some v) := by
      cases z : ρ[i]? with
      | none => rw [z] at q; cases q
      | some o => rw [z] at q; exact congrArg some q
    obtain ⟨w, e, r⟩ := er.at_ i v q'
    exact ⟨w, e, p.here s r⟩
theorem de_con {e : Expr} {v : V} {x : D} (h : PE X e (tC v)) (r : ∀ F, Rp W F x v) : PE X e (tD W E fun _ S => .ok (.d x) S) :=
  peI h fun σ H Q ⟨α, F, ρ, S, s, er, p⟩ => fin_d p s (r F)

/-! ### operators -/
/-- two operands, then what is done with them -/
theorem two {g : Vl → Vl → Sto → Res Vl} {r : R2} {σ : L2.St} {H : Hp} {Q : VK} (h : tD W E (fun ρ S => (fa ρ S).bind fun x S => (fb ρ S).bind fun y S => g x y S) σ H Q)
    (hr : ∀ {α F S H x y v u}, Sr W α F S H → VlR W α F S.length x v → VlR W α F S.length y u → Post W E (VlX W) α F S H (g x y S) Q → r v u H Q) : tOp r (tD W E fa) (tD W E fb) σ H Q := by
  obtain ⟨α, F, ρ, S, s, er, p⟩ := h
  refine ⟨α, F, ρ, S, s, er, p.bind.imp fun v H1 ⟨α1, F1, x, S1, x1, s1, r1, p1⟩ => ?_⟩
  refine ⟨α1, F1, ρ, S1, s1, er.ext x1, p1.bind.imp fun u H2 ⟨α2, F2, y, S2, x2, s2, r2, p2⟩ => ?_⟩
  exact hr s2 (r1.ext x2) r2 p2
/-- one operand -/
theorem one {g : Vl → Sto → Res Vl} {r : V → Hp → VK → Prop} {σ : L2.St} {H : Hp} {Q : VK} (h : tD W E (fun ρ S => (fa ρ S).bind fun x S => g x S) σ H Q)
    (hr : ∀ {α F S H x v}, Sr W α F S H → VlR W α F S.length x v → Post W E (VlX W) α F S H (g x S) Q → r v H Q) : tUn r (tD W E fa) σ H Q := by
  obtain ⟨α, F, ρ, S, s, er, p⟩ := h
  refine ⟨α, F, ρ, S, s, er, p.bind.imp fun v H1 ⟨α1, F1, x, S1, x1, s1, r1, p1⟩ => ?_⟩
  exact hr s1 r1 p1
end
end Z
end

section
set_option maxHeartbeats 1000000
/-! Z6: the operators. -/
namespace Z
open PySem L2

theorem most_eq : most = sizeLine := by rw [sizeLine_eq]; rfl
theorem str_len (s : Tx) : (⟨s.toArray⟩ : Str).length = s.length := by simp [Str.length]
theorem str_app (a b : Tx) : (⟨a.toArray⟩ : Str) ++ ⟨b.toArray⟩ = ⟨(a ++ b).toArray⟩ := by
  apply Str.ext'
  show a.toArray ++ b.toArray = (a ++ b).toArray
  simp
theorem str_eq (a b : Tx) : ((⟨a.toArray⟩ : Str) = ⟨b.toArray⟩) ↔ a = b := by
  constructor
  · intro h
    have := congrArg (fun x : Str => x.cps.toList) h
    simpa using this
  · intro h; rw [h]

section
variable {W : Wd} {α : Nat → Addr} {F : Hp} {S : Sto} {H : Hp} {N : Nat}
theorem VlR.list (s : Sr W α F S H) {x : Vl} {v : V} (r : VlR W α F S.length x v) {xs : List Vl} (h : listOf x S = some xs) : ∃ a vs, v = .ref a ∧ H a = some (.lst vs) ∧ VlRs W α F S.length xs vs := by
  cases x with
  | d d =>
    cases d <;> simp [listOf] at h
    subst h
    obtain ⟨a, vs, e, q, rr⟩ := (show Rp W F _ _ from r)
    exact ⟨a, vs, e, s.sub _ _ q, .of_pure rr⟩
  | p n =>
    obtain ⟨e, hl⟩ := (show v = .ref (α n) ∧ n < S.length from r)
    simp only [listOf] at h
    cases hn : S[n]? with
    | none => rw [hn] at h; cases h
    | some c =>
      rw [hn] at h
      cases c <;> simp at h
      subst h
      obtain ⟨vs, hv, rr⟩ := s.cel n _ hn
      exact ⟨α n, vs, e, hv, rr⟩
theorem ints_rps : ∀ (ns : List Int), Rps W F (ns.map .int) (ns.map V.int)
  | [] => rfl
  | n :: ns => ⟨_, _, rfl, rfl, ints_rps ns⟩
theorem VlR.seq (s : Sr W α F S H) {x : Vl} {v : V} (r : VlR W α F S.length x v) {xs : List Vl} (h : seqOf x S = some xs) : ∃ a vs, v = .ref a ∧ (SqL W.K H a vs ∨ SqT W.K H a vs) ∧ VlRs W α F S.length xs vs := by
  cases x with
  | d d =>
    cases d with
    | lst ds =>
      simp [seqOf] at h
      subst h
      obtain ⟨a, vs, e, q, rr⟩ := (show Rp W F _ _ from r)
      exact ⟨a, vs, e, .inl (.of (s.sub _ _ q)), .of_pure rr⟩
    | tup ds =>
      simp [seqOf] at h
      subst h
      obtain ⟨a, vs, e, q, rr⟩ := (show Rp W F _ _ from r)
      exact ⟨a, vs, e, .inr (s.sub.sqT (.of q)), .of_pure rr⟩
    | scr ns =>
      simp [seqOf] at h
      subst h
      obtain ⟨a, e, q⟩ := (show Rp W F _ _ from r)
      have : VlRs W α F S.length ((ns.map D.int).map .d) (ns.map V.int) := .of_pure (ints_rps ns)
      rw [List.map_map] at this
      exact ⟨a, _, e, .inl (s.sub.sqL q), this⟩
    | _ => simp [seqOf] at h
  | p n =>
    obtain ⟨e, hl⟩ := (show v = .ref (α n) ∧ n < S.length from r)
    simp only [seqOf] at h
    cases hn : S[n]? with
    | none => rw [hn] at h; cases h
    | some c =>
      rw [hn] at h
      cases c <;> simp at h
      subst h
      obtain ⟨vs, hv, rr⟩ := s.cel n _ hn
      exact ⟨α n, vs, e, .inl (.of hv), rr⟩
end

section
variable {X : Cx} {W : Wd} {E : XK} {a b e : Expr} {pos : Pos} {fa fb : Env → Sto → Res Vl}
variable {α : Nat → Addr} {F : Hp} {S : Sto} {H : Hp} {Q : VK} {x y : Vl} {v u : V}

/-! ### == on data -/
mutual
theorem dp_of (hK : W.K = X.K) (sub : Sub F H) : ∀ (n : Nat) (d : D) (v : V), isData n d = true → Rp W F d v → Dp X.K H v (toPy d)
  | n, .non, _, _, r => by cases (show _ = V.non from r); exact .non
  | n, .bl b, _, _, r => by cases (show _ = V.bl b from r); exact .bl b
  | n, .int i, _, _, r => by cases (show _ = V.int i from r); exact .int i
  | n, .str s, _, _, r => by cases (show _ = V.str ⟨s.toArray⟩ from r); exact .str _
  | n, .fn _, _, h, _ => by cases n <;> simp [isData] at h
  | n, .scr _, _, h, _ => by cases n <;> simp [isData] at h
  | n, .dct _ _ _, _, h, _ => by cases n <;> simp [isData] at h
  | n, .ins _ _ _, _, h, _ => by cases n <;> simp [isData] at h
  | 0, .tup _, _, h, _ => by simp [isData] at h
  | 0, .lst _, _, h, _ => by simp [isData] at h
  | n + 1, .tup xs, _, h, r => by
    obtain ⟨a, vs, e, q, rr⟩ := r
    subst e
    exact .tup (by rw [← hK]; exact sub.sqT (.of q)) (dps_of hK sub n xs vs (by simpa [isData] using h) rr)
  | n + 1, .lst xs, _, h, r => by
    obtain ⟨a, vs, e, q, rr⟩ := r
    subst e
    exact .lst (.of (sub _ _ q)) (dps_of hK sub n xs vs (by simpa [isData] using h) rr)
theorem dps_of (hK : W.K = X.K) (sub : Sub F H) : ∀ (n : Nat) (ds : List D) (vs : List V), isDatas n ds = true → Rps W F ds vs → DpAll X.K H vs (toPys ds)
  | n, [], _, _, r => by cases (show _ = [] from r); exact .nil
  | n, d :: ds, _, h, r => by
    obtain ⟨v, q, e, r1, r2⟩ := r
    subst e
    have h' : isData n d = true ∧ isDatas n ds = true := by simpa [isDatas] using h
    exact .cons (dp_of hK sub n d v h'.1 r1) (dps_of hK sub n ds q h'.2 r2)
end
mutual
theorem lay_of : ∀ (n : Nat) (d : D), isData n d = true → (toPy d).canLay0 = true ∧ (toPy d).depth ≤ n
  | n, .non, _ => by simp [toPy, PyData.canLay0, PyData.depth]
  | n, .bl b, _ => by simp [toPy, PyData.canLay0, PyData.depth]
  | n, .int i, _ => by simp [toPy, PyData.canLay0, PyData.depth]
  | n, .str s, h => by
    have h' : s.all (fun c => decide (c < 1114112)) = true := by cases n <;> simpa [isData] using h
    simp only [toPy, PyData.canLay0, PyData.depth, PyData.strOk, Nat.zero_le, and_true]
    simpa using h'
  | n, .fn _, h => by cases n <;> simp [isData] at h
  | n, .scr _, h => by cases n <;> simp [isData] at h
  | n, .dct _ _ _, h => by cases n <;> simp [isData] at h
  | n, .ins _ _ _, h => by cases n <;> simp [isData] at h
  | 0, .tup _, h => by simp [isData] at h
  | 0, .lst _, h => by simp [isData] at h
  | n + 1, .tup xs, h => by
    have := lays_of n xs (by simpa [isData] using h)
    simp only [toPy, PyData.canLay0, PyData.depth]
    exact ⟨this.1, Nat.succ_le_succ this.2⟩
  | n + 1, .lst xs, h => by
    have := lays_of n xs (by simpa [isData] using h)
    simp only [toPy, PyData.canLay0, PyData.depth]
    exact ⟨this.1, Nat.succ_le_succ this.2⟩
theorem lays_of : ∀ (n : Nat) (ds : List D), isDatas n ds = true → PyData.canLayAll0 (toPys ds) = true ∧ PyData.depthAll (toPys ds) ≤ n
  | n, [], _ => by simp [toPys, PyData.canLayAll0, PyData.depthAll]
  | n, d :: ds, h => by
    have h' : isData n d = true ∧ isDatas n ds = true := by simpa [isDatas] using h
    have h1 := lay_of n d h'.1
    have h2 := lays_of n ds h'.2
    simp only [toPys, PyData.canLayAll0, PyData.depthAll, h1.1, h2.1, Bool.and_self, true_and]
    exact Nat.max_le.mpr ⟨h1.2, h2.2⟩
end
theorem shaped_of {d : D} (h : isData 64 d = true) : SeqAt.shaped (toPy d) = true := by
  have := lay_of 64 d h
  simp [SeqAt.shaped, this.1, this.2]
theorem nz_int {d : D} {i : Int} : nz d = .int i ↔ d = .int i ∨ ∃ b, d = .bl b ∧ i = (if b then 1 else 0) := by
  cases d <;> simp [nz, eq_comm]
mutual
theorem eqv_py : ∀ (n m : Nat) (d e : D), isData n d = true → isData m e = true → PyData.eqv (toPy d) (toPy e) = eqv d e
  | n, m, .fn _, _, h, _ => by cases n <;> simp [isData] at h
  | n, m, .scr _, _, h, _ => by cases n <;> simp [isData] at h
  | n, m, .dct _ _ _, _, h, _ => by cases n <;> simp [isData] at h
  | n, m, .ins _ _ _, _, h, _ => by cases n <;> simp [isData] at h
  | n, m, .non, e, _, h => by cases e <;> (try (cases m <;> simp [isData] at h; done)) <;> simp [toPy, PyData.eqv, eqv, nz, D.beq]
  | n, m, .bl b, e, _, h => by
    cases e <;> (try (cases m <;> simp [isData] at h; done)) <;> simp [toPy, PyData.eqv, eqv, nz, D.beq] 
    all_goals (try (rename_i b'; cases b <;> cases b' <;> simp; done))
    all_goals (try rfl)
  | n, m, .int i, e, _, h => by
    cases e <;> (try (cases m <;> simp [isData] at h; done)) <;> simp [toPy, PyData.eqv, eqv, nz, D.beq] <;> (try rfl)
  | n, m, .str s, e, _, h => by
    cases e <;> (try (cases m <;> simp [isData] at h; done)) <;> simp [toPy, PyData.eqv, eqv, nz, D.beq]
    rw [Bool.eq_iff_iff]
    simp [str_eq]
  | 0, _, .tup _, _, h, _ => by simp [isData] at h
  | 0, _, .lst _, _, h, _ => by simp [isData] at h
  | n + 1, m, .tup xs, e, h, h2 => by
    cases e <;> (try (cases m <;> simp [isData] at h2; done)) <;> simp [toPy, PyData.eqv, eqv, nz, D.beq]
    rename_i ys
    cases m with
    | zero => simp [isData] at h2
    | succ m => exact eqvs_py n m xs ys (by simpa [isData] using h) (by simpa [isData] using h2)
  | n + 1, m, .lst xs, e, h, h2 => by
    cases e <;> (try (cases m <;> simp [isData] at h2; done)) <;> simp [toPy, PyData.eqv, eqv, nz, D.beq]
    rename_i ys
    cases m with
    | zero => simp [isData] at h2
    | succ m => exact eqvs_py n m xs ys (by simpa [isData] using h) (by simpa [isData] using h2)
theorem eqvs_py : ∀ (n m : Nat) (d e : List D), isDatas n d = true → isDatas m e = true → PyData.eqvAll (toPys d) (toPys e) = D.beqs (nzs d) (nzs e)
  | n, m, [], [], _, _ => by simp [toPys, PyData.eqvAll, nzs, D.beqs]
  | n, m, [], _ :: _, _, _ => by simp [toPys, PyData.eqvAll, nzs, D.beqs]
  | n, m, _ :: _, [], _, _ => by simp [toPys, PyData.eqvAll, nzs, D.beqs]
  | n, m, x :: xs, y :: ys, h, h2 => by
    have h' : isData n x = true ∧ isDatas n xs = true := by simpa [isDatas] using h
    have h2' : isData m y = true ∧ isDatas m ys = true := by simpa [isDatas] using h2
    simp only [toPys, PyData.eqvAll, nzs, D.beqs]
    rw [eqv_py n m x y h'.1 h2'.1, eqvs_py n m xs ys h'.2 h2'.2]
    rfl
end
/-! ### dicts: what is found -/
theorem zip_fs {τ : Type} : ∀ kvs : List (D × τ), (kvs.map (·.1)).zip (kvs.map (·.2)) = kvs
  | [] => rfl
  | p :: r => by simp [zip_fs r]
theorem eqv_keyK {d1 d2 : D} {c1 c2 : Key} (h1 : keyK d1 = some c1) (h2 : keyK d2 = some c2) : eqv d1 d2 = decide (c1 = c2) := by
  cases d1 <;> simp [keyK] at h1 <;> cases d2 <;> simp [keyK] at h2 <;> subst h1 <;> subst h2 <;> simp [eqv, nz, D.beq, str_eq]
theorem eqv_keyKs : ∀ {d1 d2 : List D} {c1 c2 : List Key}, keyKs d1 = some c1 → keyKs d2 = some c2 → D.beqs (nzs d1) (nzs d2) = decide (c1 = c2)
  | [], [], c1, c2, h1, h2 => by cases h1; cases h2; rfl
  | [], d :: ds, c1, c2, h1, h2 => by
    cases h1
    simp only [keyKs] at h2
    cases e1 : keyK d with
    | none => rw [e1] at h2; cases h2
    | some k =>
      cases e2 : keyKs ds with
      | none => rw [e1, e2] at h2; cases h2
      | some ks => rw [e1, e2] at h2; cases h2; rfl
  | d :: ds, [], c1, c2, h1, h2 => by
    cases h2
    simp only [keyKs] at h1
    cases e1 : keyK d with
    | none => rw [e1] at h1; cases h1
    | some k =>
      cases e2 : keyKs ds with
      | none => rw [e1, e2] at h1; cases h1
      | some ks => rw [e1, e2] at h1; cases h1; rfl
  | d :: ds, e :: es, c1, c2, h1, h2 => by
    simp only [keyKs] at h1 h2
    cases e1 : keyK d with
    | none => rw [e1] at h1; cases h1
    | some k =>
      cases e2 : keyKs ds with
      | none => rw [e1, e2] at h1; cases h1
      | some ks =>
        cases e3 : keyK e with
        | none => rw [e3] at h2; cases h2
        | some k' =>
          cases e4 : keyKs es with
          | none => rw [e3, e4] at h2; cases h2
          | some ks' =>
            rw [e1, e2] at h1; rw [e3, e4] at h2
            cases h1; cases h2
            have a := eqv_keyK e1 e3
            have b := eqv_keyKs e2 e4
            unfold eqv at a
            show (D.beq (nz d) (nz e) && D.beqs (nzs ds) (nzs es)) = _
            rw [a, b, Bool.eq_iff_iff]
            simp
theorem eqv_keyT {d1 d2 : D} {c1 c2 : List Key} (h1 : keyT d1 = some c1) (h2 : keyT d2 = some c2) : eqv d1 d2 = decide (c1 = c2) := by
  cases d1 <;> simp [keyT] at h1
  cases d2 <;> simp [keyT] at h2
  exact eqv_keyKs h1 h2
section
variable {κ τ : Type} [DecidableEq κ] {key : D → Option κ} {R : τ → V → Prop}
theorem find_rel (hk : ∀ {d1 d2 c1 c2}, key d1 = some c1 → key d2 = some c2 → eqv d1 d2 = decide (c1 = c2)) {k : D} {c : κ} (hc : key k = some c) : ∀ {ks : List D} {kk : List κ} {xs : List τ} {ws : List V}, ks.map key = kk.map some → kk.length = ws.length → Paired R xs ws →
    (kvFind (ks.zip xs) k = none ∧ valV (kk.zip ws) c = none) ∨ ∃ z w, kvFind (ks.zip xs) k = some z ∧ valV (kk.zip ws) c = some w ∧ R z w
  | [], [], xs, ws, _, hl, r => .inl ⟨by simp [kvFind], by simp [valV]⟩
  | [], _ :: _, _, _, h, _, _ => by simp at h
  | _ :: _, [], _, _, h, _, _ => by simp at h
  | d :: ks, q :: kk, xs, ws, h, hl, r => by
    rw [List.map_cons, List.map_cons] at h
    injection h with h1 h2
    cases r with
    | nil => simp at hl
    | @cons x w xs ws hx hr =>
      have ih := find_rel hk hc (xs := xs) (ws := ws) h2 (by simpa using hl) hr
      have e := hk h1 hc
      unfold kvFind valV at *
      by_cases hq : q = c
      · rw [decide_eq_true hq] at e
        refine .inr ⟨x, w, ?_, ?_, hx⟩
        · simp [e]
        · simp [hq]
      · rw [decide_eq_false hq] at e
        simp only [List.zip_cons_cons, List.find?_cons, e, decide_eq_false hq]
        exact ih
end
theorem rps_paired {F : Hp} : ∀ {ds : List D} {ws : List V}, Rps W F ds ws → Paired (Rp W F) ds ws
  | [], ws, r => by cases (show ws = [] from r); exact .nil
  | d :: ds, ws, r => by
    obtain ⟨v, q, e, r1, r2⟩ := r
    subst e
    exact .cons r1 (rps_paired r2)
theorem vls_paired {α : Nat → Addr} {F : Hp} {N : Nat} {xs : List Vl} {ws : List V} (r : VlRs W α F N xs ws) : Paired (VlR W α F N) xs ws := by
  induction r with
  | nil => exact .nil
  | cons a _ ih => exact .cons a ih
/-- a key as a value: what DGet and DPut ask -/
theorem key_flat {F : Hp} {k : D} {c : Key} {y : V} (h : keyK k = some c) (r : Rp W F k y) : y = kV c := by
  cases k <;> simp [keyK] at h <;> subst h <;> exact r
theorem keys_flat {F : Hp} : ∀ {ks : List D} {cs : List Key} {ys : List V}, keyKs ks = some cs → Rps W F ks ys → ys = cs.map kV
  | [], cs, ys, h, r => by cases h; exact r
  | k :: ks, cs, ys, h, r => by
    obtain ⟨v, q, e, r1, r2⟩ := r
    subst e
    simp only [keyKs] at h
    cases e1 : keyK k with
    | none => rw [e1] at h; cases h
    | some c =>
      cases e2 : keyKs ks with
      | none => rw [e1, e2] at h; cases h
      | some cs' =>
        rw [e1, e2] at h
        cases h
        rw [List.map_cons, ← key_flat e1 r1, ← keys_flat e2 r2]
theorem keyKs_of : ∀ {ks : List D}, ks.all flatKey = true → ∃ cs, keyKs ks = some cs
  | [], _ => ⟨[], rfl⟩
  | k :: ks, h => by
    rw [List.all_cons, Bool.and_eq_true] at h
    obtain ⟨cs, e⟩ := keyKs_of h.2
    obtain ⟨k1, h1⟩ := h
    cases k <;> simp [flatKey] at k1
    · rename_i i; exact ⟨.inl i :: cs, by simp [keyKs, keyK, e]⟩
    · rename_i z; exact ⟨.inr ⟨z.toArray⟩ :: cs, by simp [keyKs, keyK, e]⟩
/-- what a dict gives at a key -/
theorem dget_of {τ : Type} {R : τ → V → Prop} {a : Addr} {t : Bool} {ks : List D} {ws : List V} {xs : List τ} {k : D} (q : DctR H a t ks ws) (rr : Paired R xs ws) (hk : keyOk t k = true) (ry : Rp W F k u) (sub : Sub F H) :
    (kvFind (ks.zip xs) k = none ∧ DGet H a u none) ∨ ∃ z w, kvFind (ks.zip xs) k = some z ∧ R z w ∧ DGet H a u (some w) := by
  rcases q with ⟨rfl, kk, h1, h2, h3⟩ | ⟨rfl, kk, h1, h2, h3⟩
  · obtain ⟨c, hc⟩ : ∃ c, keyK k = some c := by cases k <;> simp [keyOk] at hk <;> exact ⟨_, rfl⟩
    have hy := key_flat hc ry
    subst hy
    rcases find_rel (fun h1 h2 => eqv_keyK h1 h2) hc h1 h2 rr with ⟨e1, e2⟩ | ⟨z, w, e1, e2, hr⟩
    · exact .inl ⟨e1, by rw [← e2]; exact DGet.k h3⟩
    · exact .inr ⟨z, w, e1, hr, by rw [← e2]; exact DGet.k h3⟩
  · obtain ⟨ds, rfl, hall⟩ : ∃ ds, k = .tup ds ∧ ds.all flatKey = true := by cases k <;> simp [keyOk] at hk; exact ⟨_, rfl, by simpa using hk⟩
    obtain ⟨c, hc⟩ := keyKs_of hall
    obtain ⟨b, vs, rfl, hb, rs⟩ := ry
    have hy := keys_flat hc rs
    subst hy
    have hb' := sub _ _ hb
    rcases find_rel (key := keyT) (fun h1 h2 => eqv_keyT h1 h2) (k := .tup ds) hc h1 h2 rr with ⟨e1, e2⟩ | ⟨z, w, e1, e2, hr⟩
    · exact .inl ⟨e1, by rw [← e2]; exact DGet.t h3 hb'⟩
    · exact .inr ⟨z, w, e1, hr, by rw [← e2]; exact DGet.t h3 hb'⟩
section
variable {κ : Type} [DecidableEq κ] {key : D → Option κ} {α : Nat → Addr} {N : Nat}
theorem any_rel (hk : ∀ {d1 d2 c1 c2}, key d1 = some c1 → key d2 = some c2 → eqv d1 d2 = decide (c1 = c2)) {k : D} {c : κ} (hc : key k = some c) : ∀ {kvs : List (D × Vl)} {kk : List κ} {ws : List V}, (kvs.map (·.1)).map key = kk.map some → kk.length = ws.length →
    (kvs.any fun kv => eqv kv.1 k) = (kk.zip ws).any fun kv => decide (kv.1 = c)
  | [], [], ws, _, _ => by simp
  | [], _ :: _, _, h, _ => by simp at h
  | _ :: _, [], _, h, _ => by simp at h
  | p :: kvs, q :: kk, [], h, hl => by simp at hl
  | p :: kvs, q :: kk, w :: ws, h, hl => by
    rw [List.map_cons, List.map_cons, List.map_cons] at h
    injection h with h1 h2
    rw [List.zip_cons_cons, List.any_cons, List.any_cons, hk h1 hc, any_rel hk hc h2 (by simpa using hl)]
theorem map_rel (hk : ∀ {d1 d2 c1 c2}, key d1 = some c1 → key d2 = some c2 → eqv d1 d2 = decide (c1 = c2)) {k : D} {c : κ} (hc : key k = some c) {F : Hp} {x : Vl} {w : V} (hx : VlR W α F N x w) : ∀ {kvs : List (D × Vl)} {kk : List κ} {ws : List V}, (kvs.map (·.1)).map key = kk.map some → kk.length = ws.length → VlRs W α F N (kvs.map (·.2)) ws →
    ∃ ws' : List V, (kk.zip ws).map (fun kv => if kv.1 = c then (kv.1, w) else kv) = kk.zip ws' ∧ ws'.length = ws.length ∧ VlRs W α F N ((kvs.map fun kv => if eqv kv.1 k then (kv.1, x) else kv).map (·.2)) ws'
  | [], [], ws, _, hl, r => by
    cases r
    exact ⟨[], rfl, rfl, .nil⟩
  | [], _ :: _, _, h, _, _ => by simp at h
  | _ :: _, [], _, h, _, _ => by simp at h
  | p :: kvs, q :: kk, [], h, hl, _ => by simp at hl
  | p :: kvs, q :: kk, v :: ws, h, hl, r => by
    rw [List.map_cons, List.map_cons, List.map_cons] at h
    injection h with h1 h2
    cases r with
    | cons r1 r2 =>
      obtain ⟨ws', e, l, rr⟩ := map_rel hk hc hx h2 (by simpa using hl) r2
      have e1 := hk h1 hc
      by_cases hq : q = c
      · rw [decide_eq_true hq] at e1
        refine ⟨w :: ws', ?_, by simp [l], ?_⟩
        · rw [List.zip_cons_cons, List.map_cons, List.zip_cons_cons, e, if_pos hq]
        · rw [List.map_cons, List.map_cons, if_pos e1]
          exact .cons hx rr
      · rw [decide_eq_false hq] at e1
        refine ⟨v :: ws', ?_, by simp [l], ?_⟩
        · rw [List.zip_cons_cons, List.map_cons, List.zip_cons_cons, e, if_neg hq]
        · rw [List.map_cons, List.map_cons, if_neg (by rw [e1]; exact Bool.false_ne_true)]
          exact .cons r1 rr
theorem put_keys (k : D) (x : Vl) (kvs : List (D × Vl)) : (kvPut kvs k x).map (·.1) = if kvs.any (fun kv => eqv kv.1 k) then kvs.map (·.1) else kvs.map (·.1) ++ [k] := by
  unfold kvPut
  split
  · rw [List.map_map]
    apply List.map_congr_left
    intro p _
    show (if eqv p.1 k = true then (p.1, x) else p).1 = p.1
    split <;> rfl
  · simp
theorem put_rel (hk : ∀ {d1 d2 c1 c2}, key d1 = some c1 → key d2 = some c2 → eqv d1 d2 = decide (c1 = c2)) {k : D} {c : κ} (hc : key k = some c) {F : Hp} {x : Vl} {w : V} (hx : VlR W α F N x w) {kvs : List (D × Vl)} {kk : List κ} {ws : List V} (h : (kvs.map (·.1)).map key = kk.map some) (hl : kk.length = ws.length) (r : VlRs W α F N (kvs.map (·.2)) ws) :
    ∃ (kk' : List κ) (ws' : List V), putK (kk.zip ws) c w = kk'.zip ws' ∧ ((kvPut kvs k x).map (·.1)).map key = kk'.map some ∧ kk'.length = ws'.length ∧ VlRs W α F N ((kvPut kvs k x).map (·.2)) ws' := by
  have ha := any_rel hk hc h hl
  rw [put_keys]
  unfold putK kvPut
  by_cases e : (kvs.any fun kv => eqv kv.1 k) = true
  · rw [if_pos e, if_pos e, if_pos (by rw [← ha]; exact e)]
    obtain ⟨ws', e1, l, rr⟩ := map_rel hk hc hx h hl r
    exact ⟨kk, ws', e1, h, by rw [l]; exact hl, rr⟩
  · rw [if_neg e, if_neg e, if_neg (by rw [← ha]; exact e)]
    refine ⟨kk ++ [c], ws ++ [w], ?_, ?_, by simp [hl], ?_⟩
    · rw [List.zip_append hl]; rfl
    · rw [List.map_append, List.map_append, h, List.map_cons, List.map_nil, hc]; rfl
    · rw [List.map_append]
      exact r.append (.cons hx .nil)
end
theorem dct_len {kvs : List (D × Vl)} {κ : Type} {key : D → Option κ} {kk : List κ} {ws : List V} (h : (kvs.map (·.1)).map key = kk.map some) (hl : kk.length = ws.length) : (kk.zip ws).length = kvs.length := by
  have := congrArg List.length h
  simp at this
  simp [hl, this]
/-- a store into a dict -/
theorem dput_of {α : Nat → Addr} {N : Nat} {a : Addr} {t : Bool} {kvs : List (D × Vl)} {ws : List V} {k : D} {x : Vl} {w : V} (q : DctR H a t (kvs.map (·.1)) ws) (rr : VlRs W α F N (kvs.map (·.2)) ws) (hk : keyOk t k = true) (ry : Rp W F k u) (sub : Sub F H) (hx : VlR W α F N x w) (hz : kvs.length < most) :
    ∃ o ws', DPut H a u w (upd H a o) ∧ DctR (upd H a o) a t ((kvPut kvs k x).map (·.1)) ws' ∧ VlRs W α F N ((kvPut kvs k x).map (·.2)) ws' := by
  rcases q with ⟨rfl, kk, h1, h2, h3⟩ | ⟨rfl, kk, h1, h2, h3⟩
  · obtain ⟨c, hc⟩ : ∃ c, keyK k = some c := by cases k <;> simp [keyOk] at hk <;> exact ⟨_, rfl⟩
    have hy := key_flat hc ry
    subst hy
    obtain ⟨kk', ws', e1, e2, e3, e4⟩ := put_rel (fun h1 h2 => eqv_keyK h1 h2) hc hx h1 h2 rr
    refine ⟨.dK (putK (kk.zip ws) c w), ws', DPut.k h3 (by rw [dct_len h1 h2, ← most_eq]; exact hz), .inl ⟨rfl, kk', e2, e3, by rw [upd_same, e1]⟩, e4⟩
  · obtain ⟨ds, rfl, hall⟩ : ∃ ds, k = .tup ds ∧ ds.all flatKey = true := by cases k <;> simp [keyOk] at hk; exact ⟨_, rfl, by simpa using hk⟩
    obtain ⟨c, hc⟩ := keyKs_of hall
    obtain ⟨b, vs, rfl, hb, rs⟩ := ry
    have hy := keys_flat hc rs
    subst hy
    have hb' := sub _ _ hb
    obtain ⟨kk', ws', e1, e2, e3, e4⟩ := put_rel (key := keyT) (fun h1 h2 => eqv_keyT h1 h2) (k := .tup ds) hc hx h1 h2 rr
    refine ⟨.dT (putK (kk.zip ws) c w), ws', DPut.t h3 hb' (by rw [dct_len h1 h2, ← most_eq]; exact hz), .inr ⟨rfl, kk', e2, e3, by rw [upd_same, e1]⟩, e4⟩
end
end Z
end

section
set_option maxHeartbeats 1000000
/-! Z7: the operators' rules. -/
namespace Z
open PySem L2

section
variable {X : Cx} {W : Wd} {E : XK} {a b e : Expr} {pos : Pos} {fa fb : Env → Sto → Res Vl}
variable {α : Nat → Addr} {F : Hp} {S : Sto} {H : Hp} {Q : VK} {x y : Vl} {v u : V}

theorem VlR.int {i : Int} {N : Nat} (r : VlR W α F N (.d (.int i)) v) : v = .int i := r
theorem VlR.str {z : Tx} {N : Nat} (r : VlR W α F N (.d (.str z)) v) : v = .str ⟨z.toArray⟩ := r

/-- two ints -/
theorem bin_int {C : Int → Int → Prop} {c : Int → Int → Bool} {g : Int → Int → Int} (hc : ∀ i j, c i j = true → C i j)
    (s : Sr W α F S H) (rx : VlR W α F S.length x v) (ry : VlR W α F S.length y u) (p : Post W E (VlX W) α F S H (opI c g x y S) Q) : rI C (fun i j => .int (g i j)) v u H Q := by
  cases x with
  | p n => exact p.elim
  | d x =>
    cases x with
    | int i =>
      cases y with
      | p n => exact p.elim
      | d y =>
        cases y with
        | int j =>
          have p : Post W E (VlX W) α F S H (if c i j then .ok (.d (.int (g i j))) S else .bad) Q := p
          by_cases h : c i j = true
          · rw [if_pos h] at p
            exact ⟨i, j, rx, ry, hc i j h, p.here s rfl⟩
          · rw [if_neg h] at p
            exact p.elim
        | _ => exact p.elim
    | _ => exact p.elim
theorem cMul_iff {i j : Int} : cMul i j = true ↔ CMul i j := by simp [cMul, CMul]
theorem cPow_iff {i j : Int} : cPow i j = true ↔ CPow i j := by simp [cPow, CPow, and_assoc]

theorem bin_cat (s : Sr W α F S H) (rx : VlR W α F S.length x v) (ry : VlR W α F S.length y u) (p : Post W E (VlX W) α F S H (catL x y S) Q) : rCat v u H Q := by
  unfold catL at p
  cases ex : listOf x S with
  | none => rw [ex] at p; exact p.elim
  | some xs =>
    cases ey : listOf y S with
    | none => rw [ex, ey] at p; exact p.elim
    | some ys =>
      rw [ex, ey] at p
      simp only at p
      cases px : pures xs with
      | none => rw [px] at p; exact p.elim
      | some ds =>
        cases py : pures ys with
        | none => rw [px, py] at p; exact p.elim
        | some es =>
          rw [px, py] at p
          simp only at p
          by_cases hz : ds.length + es.length ≤ most
          · rw [if_pos (by simpa using hz)] at p
            obtain ⟨a, vs, rfl, q1, r1⟩ := rx.list s ex
            obtain ⟨b, us, rfl, q2, r2⟩ := ry.list s ey
            have r1 := r1.pures px
            have r2 := r2.pures py
            exact ⟨a, b, vs, us, rfl, rfl, q1, q2, by rw [← r1.length, ← r2.length, ← most_eq]; exact hz, fun l hl => fin_lst p s (r1.append r2) hl⟩
          · rw [if_neg (by simpa using hz)] at p
            exact p.elim
abbrev rAddS : R2 := fun x y H Q => ∃ i j, x = .str i ∧ y = .str j ∧ i.length + j.length ≤ sizeLine ∧ Q (.str (i ++ j)) H
theorem bin_add (hK : W.K = X.K) (s : Sr W α F S H) (rx : VlR W α F S.length x v) (ry : VlR W α F S.length y u) (p : Post W E (VlX W) α F S H (opAdd x y S) Q) :
    ((rI0 fun i j => V.int (i + j)) v u H Q ∨ rAddS v u H Q) ∨ (rCatT X.K v u H Q ∨ rCat v u H Q) := by
  cases x with
  | p n => exact .inr (.inr (bin_cat s rx ry p))
  | d x =>
    cases x with
    | int i =>
      cases y with
      | p n => exact p.elim
      | d y =>
        cases y with
        | int j => exact .inl (.inl ⟨i, j, rx, ry, p.here s rfl⟩)
        | _ => exact p.elim
    | str i =>
      cases y with
      | p n => exact p.elim
      | d y =>
        cases y with
        | str j =>
          have p : Post W E (VlX W) α F S H (if decide (i.length + j.length ≤ most) then .ok (.d (.str (i ++ j))) S else .bad) Q := p
          by_cases hz : i.length + j.length ≤ most
          · rw [if_pos (by simpa using hz)] at p
            refine .inl (.inr ⟨_, _, rx, ry, by rw [str_len, str_len, ← most_eq]; exact hz, ?_⟩)
            rw [str_app]
            exact p.here s rfl
          · rw [if_neg (by simpa using hz)] at p
            exact p.elim
        | _ => exact p.elim
    | tup i =>
      cases y with
      | p n => exact p.elim
      | d y =>
        cases y with
        | tup j =>
          have p : Post W E (VlX W) α F S H (if !i.isEmpty && decide (i.length + j.length ≤ most) then .ok (.d (.tup (i ++ j))) S else .bad) Q := p
          by_cases hz : (!i.isEmpty && decide (i.length + j.length ≤ most)) = true
          · rw [if_pos hz] at p
            rw [Bool.and_eq_true] at hz
            have hz2 : i.length + j.length ≤ most := of_decide_eq_true hz.2
            obtain ⟨a, vs, rfl, q1, r1⟩ := (show Rp W F (.tup i) v from rx)
            obtain ⟨b, us, rfl, q2, r2⟩ := (show Rp W F (.tup j) u from ry)
            refine .inr (.inl ⟨a, b, vs, us, rfl, rfl, by rw [← hK]; exact s.sub.sqT (.of q1), by rw [← hK]; exact s.sub.sqT (.of q2), ?_, by rw [← r1.length, ← r2.length, ← most_eq]; exact hz2, fun e => ?_, fun _ l hl => ?_⟩)
            · intro e
              subst e
              have := r1.length
              cases i with
              | nil => simp at hz
              | cons _ _ => simp at this
            · subst e
              have := r2.length
              cases j with
              | nil => rw [List.append_nil] at p; exact p.here s ⟨a, vs, rfl, q1, r1⟩
              | cons _ _ => simp at this
            · exact fin_tup p s (r1.append r2) hl
          · rw [if_neg hz] at p
            exact p.elim
        | _ => exact p.elim
    | _ => exact .inr (.inr (bin_cat s rx ry p))
theorem Rps.flat {ds : List D} {vs : List V} (r : Rps W F ds vs) : ∀ k : Nat, Rps W F (List.replicate k ds).flatten (List.replicate k vs).flatten
  | 0 => rfl
  | k + 1 => by
    rw [List.replicate_succ, List.replicate_succ, List.flatten_cons, List.flatten_cons]
    exact r.append (Rps.flat r k)
theorem bin_mul (s : Sr W α F S H) (rx : VlR W α F S.length x v) (ry : VlR W α F S.length y u) (p : Post W E (VlX W) α F S H (opMul x y S) Q) :
    rI CMul (fun i j => .int (i * j)) v u H Q ∨ rRep v u H Q := by
  have rep : ∀ {x : Vl} {j : Int}, VlR W α F S.length x v → u = .int j → Post W E (VlX W) α F S H (repL x j S) Q → rRep v u H Q := fun {x j} rx ry p => by
    unfold repL at p
    cases ex : listOf x S with
    | none => rw [ex] at p; exact p.elim
    | some xs =>
      rw [ex] at p
      simp only at p
      cases px : pures xs with
      | none => rw [px] at p; exact p.elim
      | some ds =>
        rw [px] at p
        simp only at p
        by_cases hz : (decide (-(2 ^ 63) ≤ j) && decide (j < 2 ^ 63) && decide (ds.length * j.toNat ≤ most)) = true
        · rw [if_pos hz] at p
          simp only [Bool.and_eq_true, decide_eq_true_eq] at hz
          obtain ⟨a, vs, rfl, q1, r1⟩ := rx.list s ex
          have r1 := r1.pures px
          exact ⟨a, j, vs, rfl, ry, q1, hz.1.1, hz.1.2, by rw [← r1.length, ← most_eq]; exact hz.2, fun l hl => fin_lst p s (r1.flat j.toNat) hl⟩
        · rw [if_neg hz] at p
          exact p.elim
  cases y with
  | p n => exact p.elim
  | d y =>
    cases y with
    | int j =>
      cases x with
      | p n => exact .inr (rep rx ry p)
      | d x =>
        cases x with
        | int i =>
          have p : Post W E (VlX W) α F S H (if cMul i j then .ok (.d (.int (i * j))) S else .bad) Q := p
          by_cases h : cMul i j = true
          · rw [if_pos h] at p
            exact .inl ⟨i, j, rx, ry, cMul_iff.mp h, p.here s rfl⟩
          · rw [if_neg h] at p
            exact p.elim
        | _ => exact .inr (rep rx ry p)
    | _ => exact p.elim
theorem OpR.imp {f : Value → Value → Sem Value} {r r' : R2} (h : OpR X f r) (k : ∀ x y H Q, r' x y H Q → r x y H Q) : OpR X f r' := fun pins s σ H x y v u Q I rx ry q => h pins s σ H x y v u Q I rx ry (k _ _ _ _ q)

theorem de_op (hK : W.K = X.K) {op : Operator} {o : Op} (ho : cOp op = some o) (ha : PE X a (tD W E fa)) (hb : PE X b (tD W E fb)) :
    PE X (.BinOp a op b pos) (tD W E fun ρ S => (fa ρ S).bind fun x S => (fb ρ S).bind fun y S => binop o x y S) := by
  cases op <;> simp [cOp] at ho <;> subst ho
  · exact peI (pe_op ((op_add.or op_add_str).or (op_catT.or op_cat)) ha hb) fun σ H Q h => two h fun s rx ry p => bin_add hK s rx ry p
  · exact peI (pe_op op_sub ha hb) fun σ H Q h => two h fun s rx ry p => by
      obtain ⟨i, j, e1, e2, _, q⟩ := bin_int (C := fun _ _ => True) (fun _ _ _ => trivial) s rx ry p
      exact ⟨i, j, e1, e2, q⟩
  · exact peI (pe_op (op_mul.or op_rep) ha hb) fun σ H Q h => two h fun s rx ry p => bin_mul s rx ry p
  · exact peI (pe_op op_mod ha hb) fun σ H Q h => two h fun s rx ry p => bin_int (fun _ _ h => of_decide_eq_true h) s rx ry p
  · exact peI (pe_op op_pow ha hb) fun σ H Q h => two h fun s rx ry p => bin_int (fun _ _ h => cPow_iff.mp h) s rx ry p
  · exact peI (pe_op op_shl ha hb) fun σ H Q h => two h fun s rx ry p => bin_int (fun _ _ h => cPow_iff.mp h) s rx ry p
  · exact peI (pe_op op_fdiv ha hb) fun σ H Q h => two h fun s rx ry p => bin_int (fun i j h => by
      rw [Bool.and_eq_true] at h
      exact ⟨of_decide_eq_true h.1, of_decide_eq_true h.2⟩) s rx ry p
theorem de_neg (ha : PE X a (tD W E fa)) : PE X (.UnaryOp .USub a pos) (tD W E fun ρ S => (fa ρ S).bind fun x S => match x with
    | .d (.int i) => .ok (.d (.int (-i))) S
    | _ => .bad) :=
  peI (pe_un un_neg ha) fun σ H Q h => one (g := fun x S => match x with
    | .d (.int i) => .ok (.d (.int (-i))) S
    | _ => .bad) h fun {α F S H x v} s rx p => by
    cases x with
    | p n => exact p.elim
    | d x =>
      cases x with
      | int i => exact ⟨i, rx, p.here s rfl⟩
      | _ => exact p.elim
end
end Z
end

section
set_option maxHeartbeats 1000000
/-! Z8: comparisons. -/
namespace Z
open PySem L2

section
variable {X : Cx} {W : Wd} {E : XK} {a b e : Expr} {pos : Pos} {fa fb : Env → Sto → Res Vl}
variable {α : Nat → Addr} {F : Hp} {S : Sto} {H : Hp} {Q : VK} {x y : Vl} {v u : V}

theorem VlR.data (s : Sr W α F S H) (r : VlR W α F S.length x v) {d : D} (h : dataOf x S = some d) : Rp W H d v := by
  cases x with
  | d d' =>
    cases h
    exact Rp.mono s.sub r
  | p n =>
    obtain ⟨e, hl⟩ := (show v = .ref (α n) ∧ n < S.length from r)
    simp only [dataOf] at h
    cases hn : S[n]? with
    | none => rw [hn] at h; cases h
    | some c =>
      rw [hn] at h
      cases c <;> simp at h
      rename_i xs
      obtain ⟨ds, hd, rfl⟩ := h
      obtain ⟨vs, hv, rr⟩ := s.cel n _ hn
      exact ⟨α n, vs, e, hv, Rps.mono s.sub (rr.pures hd)⟩
theorem bl_eq {i j : Bool} : decide (V.bl i = V.bl j) = (i == j) := dec_bl
theorem flat_eq {a b : D} (ha : isFlat a = true) (hb : isFlat b = true) (ra : Rp W F a v) (rb : Rp W F b u) :
    (scal v u = true ∧ eqv a b = decide (v = u)) ∨ (isData 64 a = true ∧ isData 64 b = true) := by
  cases a <;> simp [isFlat] at ha <;> cases b <;> simp [isFlat] at hb <;>
    simp only [Rp] at ra rb <;> subst ra <;> subst rb
  all_goals first
    | exact .inr ⟨rfl, rfl⟩
    | (refine .inl ⟨rfl, ?_⟩; simp [eqv, nz, D.beq, str_eq]; done)
    | skip
theorem cmp_eqv (hK : W.K = X.K) (neg : Bool) (s : Sr W α F S H) (rx : VlR W α F S.length x v) (ry : VlR W α F S.length y u) (p : Post W E (VlX W) α F S H (cEqv neg x y S) Q) :
    (∃ b, scal v u = true ∧ decide (v = u) = b ∧ Q (.bl (if neg then !b else b)) H) ∨ ∃ d e, Dp X.K H v d ∧ Dp X.K H u e ∧ SeqAt.shaped d = true ∧ SeqAt.shaped e = true ∧ Q (.bl (if neg then !PyData.eqv d e else PyData.eqv d e)) H := by
  unfold cEqv at p
  cases ex : dataOf x S with
  | none => rw [ex] at p; exact p.elim
  | some c =>
    cases ey : dataOf y S with
    | none => rw [ex, ey] at p; exact p.elim
    | some d =>
      rw [ex, ey] at p
      simp only at p
      have r1 := rx.data s ex
      have r2 := ry.data s ey
      by_cases hz : eqOk c d = true
      · rw [if_pos hz] at p
        have q := p.here s rfl
        have deep : isData 64 c = true → isData 64 d = true → ∃ d e, Dp X.K H v d ∧ Dp X.K H u e ∧ SeqAt.shaped d = true ∧ SeqAt.shaped e = true ∧ Q (.bl (if neg then !PyData.eqv d e else PyData.eqv d e)) H := fun h1 h2 => by
          refine ⟨toPy c, toPy d, dp_of hK (Sub.refl H) 64 c v h1 r1, dp_of hK (Sub.refl H) 64 d u h2 r2, shaped_of h1, shaped_of h2, ?_⟩
          rw [eqv_py 64 64 c d h1 h2]
          exact q
        unfold eqOk at hz
        rw [Bool.or_eq_true, Bool.and_eq_true, Bool.and_eq_true] at hz
        rcases hz with ⟨h1, h2⟩ | ⟨h1, h2⟩
        · rcases flat_eq h1 h2 r1 r2 with ⟨h3, h4⟩ | ⟨h3, h4⟩
          · exact .inl ⟨_, h3, h4.symm, q⟩
          · exact .inr (deep h3 h4)
        · exact .inr (deep h1 h2)
      · rw [if_neg hz] at p
        exact p.elim
theorem str_lt (a b : Tx) : decide ((⟨a.toArray⟩ : Str).cps.toList < (⟨b.toArray⟩ : Str).cps.toList) = ltTx a b := rfl
/-- an order of data that are alike -/
def rOrdD (K : PySem.W.Frag) (f : PyData → PyData → Bool) : R2 := fun x y H Q => ∃ d e, Dp K H x d ∧ Dp K H y e ∧ PySem.W.alike d e = true ∧ d ≠ .none ∧ SeqAt.shaped d = true ∧ Q (.bl (f d e)) H
theorem op_ltD (hu : X.A.units + 64 < cLine) : OpR X (compareOp .Lt) (rOrdD X.K PySem.W.dataLt) := by
  intro pins s σ H x y v u Q I rx ry h
  obtain ⟨d, e, hd, he, ha, hn, sd, q⟩ := h
  obtain ⟨as, r1⟩ := Dp.reads I d x v hd rx
  obtain ⟨bs, r2⟩ := Dp.reads I e y u he ry
  exact PySem.W.lt_data r1 r2 ha hn (SeqAt.room_of_shaped sd hu) ⟨.bl _, H, I, rfl, q⟩
theorem op_gtD (hu : X.A.units + 64 < cLine) : OpR X (compareOp .Gt) (rOrdD X.K fun a b => PySem.W.dataLt b a) := by
  intro pins s σ H x y v u Q I rx ry h
  obtain ⟨d, e, hd, he, ha, hn, sd, q⟩ := h
  obtain ⟨as, r1⟩ := Dp.reads I d x v hd rx
  obtain ⟨bs, r2⟩ := Dp.reads I e y u he ry
  exact PySem.W.gt_data r1 r2 ha hn (SeqAt.room_of_shaped sd hu) ⟨.bl _, H, I, rfl, q⟩
theorem op_leD (hu : X.A.units + 64 < cLine) : OpR X (compareOp .LtE) (rOrdD X.K fun a b => !PySem.W.dataLt b a) := by
  intro pins s σ H x y v u Q I rx ry h
  obtain ⟨d, e, hd, he, ha, hn, sd, q⟩ := h
  obtain ⟨as, r1⟩ := Dp.reads I d x v hd rx
  obtain ⟨bs, r2⟩ := Dp.reads I e y u he ry
  exact PySem.W.le_data r1 r2 ha hn (SeqAt.room_of_shaped sd hu) ⟨.bl _, H, I, rfl, q⟩
theorem op_geD (hu : X.A.units + 64 < cLine) : OpR X (compareOp .GtE) (rOrdD X.K fun a b => !PySem.W.dataLt a b) := by
  intro pins s σ H x y v u Q I rx ry h
  obtain ⟨d, e, hd, he, ha, hn, sd, q⟩ := h
  obtain ⟨as, r1⟩ := Dp.reads I d x v hd rx
  obtain ⟨bs, r2⟩ := Dp.reads I e y u he ry
  exact PySem.W.ge_data r1 r2 ha hn (SeqAt.room_of_shaped sd hu) ⟨.bl _, H, I, rfl, q⟩
theorem cmp_ord (hK : W.K = X.K) {f : Int → Int → Bool} {g : Tx → Tx → Bool} {h : D → D → Bool} {f' : Int → Int → Bool} {g' : Str → Str → Bool} {h' : PyData → PyData → Bool} (hf : ∀ i j, f i j = f' i j) (hg : ∀ i j, g i j = g' ⟨i.toArray⟩ ⟨j.toArray⟩) (hh : ∀ i j, h i j = h' (toPy i) (toPy j))
    (s : Sr W α F S H) (rx : VlR W α F S.length x v) (ry : VlR W α F S.length y u) (p : Post W E (VlX W) α F S H (cOrd f g h x y S) Q) :
    ((rI0 fun i j => .bl (f' i j)) v u H Q ∨ ∃ i j, v = .str i ∧ u = .str j ∧ Q (.bl (g' i j)) H) ∨ rOrdD X.K h' v u H Q := by
  cases x with
  | p n => exact p.elim
  | d x =>
    cases x with
    | int i =>
      cases y with
      | p n => exact p.elim
      | d y =>
        cases y with
        | int j => exact .inl (.inl ⟨i, j, rx, ry, by show Q (.bl (f' i j)) H; rw [← hf]; exact p.here s rfl⟩)
        | _ => exact p.elim
    | str i =>
      cases y with
      | p n => exact p.elim
      | d y =>
        cases y with
        | str j => exact .inl (.inr ⟨_, _, rx, ry, by rw [← hg]; exact p.here s rfl⟩)
        | _ => exact p.elim
    | tup a =>
      cases y with
      | p n => exact p.elim
      | d y =>
        cases y with
        | tup b =>
          have p : Post W E (VlX W) α F S H (if ordOk (.tup a) (.tup b) then .ok (.d (.bl (h (.tup a) (.tup b)))) S else .bad) Q := p
          by_cases hz : ordOk (.tup a) (.tup b) = true
          · rw [if_pos hz] at p
            unfold ordOk at hz
            simp only [Bool.and_eq_true] at hz
            refine .inr ⟨toPy (.tup a), toPy (.tup b), dp_of hK s.sub 64 _ _ hz.1.1.1 rx, dp_of hK s.sub 64 _ _ hz.1.1.2 ry, hz.1.2, by simp [toPy], shaped_of hz.1.1.1, ?_⟩
            rw [← hh]
            exact p.here s rfl
          · rw [if_neg hz] at p
            exact p.elim
        | _ => exact p.elim
    | lst a =>
      cases y with
      | p n => exact p.elim
      | d y =>
        cases y with
        | lst b =>
          have p : Post W E (VlX W) α F S H (if ordOk (.lst a) (.lst b) then .ok (.d (.bl (h (.lst a) (.lst b)))) S else .bad) Q := p
          by_cases hz : ordOk (.lst a) (.lst b) = true
          · rw [if_pos hz] at p
            unfold ordOk at hz
            simp only [Bool.and_eq_true] at hz
            refine .inr ⟨toPy (.lst a), toPy (.lst b), dp_of hK s.sub 64 _ _ hz.1.1.1 rx, dp_of hK s.sub 64 _ _ hz.1.1.2 ry, hz.1.2, by simp [toPy], shaped_of hz.1.1.1, ?_⟩
            rw [← hh]
            exact p.here s rfl
          · rw [if_neg hz] at p
            exact p.elim
        | _ => exact p.elim
    | _ => exact p.elim
theorem isNone_of (r : VlR W α F S.length x v) : isNone x = decide (v = .non) := by
  cases x with
  | p n => obtain ⟨e, _⟩ := (show v = .ref (α n) ∧ n < S.length from r); subst e; rfl
  | d d =>
    have r : Rp W F d v := r
    cases d <;> simp only [Rp] at r <;> first | (obtain ⟨_, _, _, e, _⟩ := r; subst e; rfl) | (obtain ⟨_, _, e, _⟩ := r; subst e; rfl) | (obtain ⟨_, e, _⟩ := r; subst e; rfl) | (subst r; rfl) | exact r.elim
theorem cmp_is (neg : Bool) (s : Sr W α F S H) (rx : VlR W α F S.length x v) (ry : VlR W α F S.length y u) (p : Post W E (VlX W) α F S H (cIs neg x y S) Q) :
    (u = .non ∧ Q (.bl (if neg then !decide (v = .non) else decide (v = .non))) H) ∨ ∃ a b : Bool, v = .bl a ∧ u = .bl b ∧ Q (.bl (if neg then !decide (a = b) else decide (a = b))) H := by
  cases y with
  | p n => exact p.elim
  | d y =>
    cases y with
    | non =>
      have q := p.here s rfl
      rw [isNone_of rx] at q
      exact .inl ⟨ry, q⟩
    | bl b =>
      cases x with
      | p n => exact p.elim
      | d x =>
        cases x with
        | bl a => exact .inr ⟨a, b, rx, ry, p.here s rfl⟩
        | _ => exact p.elim
    | _ => exact p.elim
theorem flatV_of {d : D} (h : isFlat d = true) (r : Rp W F d v) : flatV v = true := by
  cases d <;> simp [isFlat] at h <;> simp only [Rp] at r <;> subst r <;> rfl
theorem eqV_of {d e : D} (h : isFlat d = true) (h' : isFlat e = true) (r : Rp W F d v) (r' : Rp W F e u) : eqV v u = eqv d e := by
  cases d <;> simp [isFlat] at h <;> cases e <;> simp [isFlat] at h' <;> simp only [Rp] at r r' <;> subst r <;> subst r'
  all_goals first
    | rfl
    | (simp [eqV, eqv, nz, D.beq]; done)
    | (rename_i b b'; cases b <;> cases b' <;> rfl)
    | (rename_i b b'; cases b <;> simp [eqV, eqv, nz, D.beq, eq_comm] <;> rfl)
    | (rename_i b b'; cases b' <;> simp [eqV, eqv, nz, D.beq, eq_comm] <;> rfl)
    | (rename_i b b'; show decide _ = decide _; simp [str_eq]; done)
    | (rename_i b b'; show (_ == _) = decide _; rw [Bool.eq_iff_iff]; simp [str_eq]; done)
theorem memV_of {d : D} (h : isFlat d = true) (r : Rp W F d v) : ∀ {ds : List D} {vs : List V}, ds.all isFlat = true → Rps W F ds vs → vs.all flatV = true ∧ inV v vs = ds.any fun e => eqv e d
  | [], _, _, q => by cases (show _ = [] from q); exact ⟨rfl, rfl⟩
  | c :: ds, _, ha, q => by
    obtain ⟨w, r0, e, r1, r2⟩ := q
    subst e
    rw [List.all_cons, Bool.and_eq_true] at ha
    obtain ⟨h1, h2⟩ := memV_of h r ha.2 r2
    refine ⟨by rw [List.all_cons, flatV_of ha.1 r1, h1]; rfl, ?_⟩
    unfold inV at h2 ⊢
    rw [List.any_cons, List.any_cons, h2, eqV_of ha.1 h r1 r]
theorem seq_of_list {y : Vl} {S : Sto} {zs : List Vl} (h : listOf y S = some zs) : seqOf y S = some zs := by
  cases y with
  | p n =>
    simp only [listOf] at h
    simp only [seqOf]
    exact h
  | d y => cases y <;> first | exact h | cases h
theorem any_py (n m : Nat) (x : D) (hx : isData m x = true) : ∀ ds : List D, isDatas n ds = true → (toPys ds).any (fun z => PyData.eqv z (toPy x)) = ds.any fun e => eqv e x
  | [], _ => rfl
  | d :: ds, h => by
    have h : (isData n d && isDatas n ds) = true := by rw [isDatas] at h; exact h
    rw [Bool.and_eq_true] at h
    show (PyData.eqv (toPy d) (toPy x) || (toPys ds).any fun z => PyData.eqv z (toPy x)) = _
    rw [eqv_py n m d x h.1 hx, any_py n m x hx ds h.2, List.any_cons]
theorem cmp_mem0 (hK : W.K = X.K) (neg : Bool) (s : Sr W α F S H) (rx : VlR W α F S.length x v) (ry : VlR W α F S.length y u) (p : Post W E (VlX W) α F S H (match contains x y S with
  | some b => .ok (.d (.bl (if neg then !b else b))) S
  | none => .bad) Q) :
    rIn X.K neg v u H Q ∨ (∃ (c : Nat) (z : Str), v = .str ⟨#[c]⟩ ∧ u = .str z ∧ Q (.bl (if neg then !decide (c ∈ z.cps.toList) else decide (c ∈ z.cps.toList))) H) ∨
      ∃ d ds, Dp X.K H v d ∧ Dp X.K H u (.list ds) ∧ SeqAt.shaped d = true ∧ SeqAt.shaped (.list ds) = true ∧ Q (.bl (if neg then !(ds.any fun z => PyData.eqv z d) else ds.any fun z => PyData.eqv z d)) H := by
  cases x with
  | p n => exact p.elim
  | d x =>
    simp only [contains] at p
    cases ey : seqOf y S with
    | none =>
      rw [ey] at p
      cases y with
      | p n => exact p.elim
      | d y =>
        cases y with
        | str z =>
          cases x with
          | str w =>
            match w with
            | [c] => exact .inr (.inl ⟨c, ⟨z.toArray⟩, rx, ry, p.here s rfl⟩)
            | [] => exact p.elim
            | _ :: _ :: _ => exact p.elim
          | _ => exact p.elim
        | _ => exact p.elim
    | some ys =>
      rw [ey] at p
      simp only at p
      cases ep : pures ys with
      | none => rw [ep] at p; exact p.elim
      | some ds =>
        rw [ep] at p
        simp only [memFlat] at p
        by_cases hz : (isFlat x && ds.all isFlat) = true
        · rw [if_pos hz] at p
          rw [Bool.and_eq_true] at hz
          obtain ⟨a, vs, rfl, q, r⟩ := ry.seq s ey
          obtain ⟨h1, h2⟩ := memV_of hz.1 rx hz.2 (r.pures ep)
          refine .inl ⟨a, vs, rfl, by rw [← hK]; exact q, flatV_of hz.1 rx, h1, ?_⟩
          rw [h2]
          exact p.here s rfl
        · rw [if_neg hz] at p
          simp only at p
          by_cases hd : ((listOf y S).isSome && isData 64 x && isData 64 (.lst ds)) = true
          · rw [if_pos hd] at p
            simp only [Bool.and_eq_true] at hd
            obtain ⟨zs, hzs⟩ := Option.isSome_iff_exists.mp hd.1.1
            obtain ⟨a, vs, rfl, q, r⟩ := ry.list s hzs
            have hzy : zs = ys := by
              have := seq_of_list hzs
              rw [this] at ey
              exact Option.some.inj ey
            subst hzy
            have hD : isDatas 63 ds = true := by have := hd.2; rw [isData] at this; exact this
            refine .inr (.inr ⟨toPy x, toPys ds, dp_of hK s.sub 64 _ _ hd.1.2 rx, .lst (.of q) (dps_of hK s.sub 63 _ _ hD (r.pures ep)), shaped_of hd.1.2, shaped_of hd.2, ?_⟩)
            have e : (toPys ds).any (fun z => PyData.eqv z (toPy x)) = ds.any fun e => eqv e x := any_py 63 64 x hd.1.2 ds hD
            rw [e]
            exact p.here s rfl
          · rw [if_neg hd] at p
            exact p.elim

theorem op_inDct (hu : X.A.units + 100 < cLine) : OpR X (compareOp .In) (fun x y H Q => ∃ a o, y = .ref a ∧ DGet H a x o ∧ Q (.bl o.isSome) H) := by
  intro pins s σ H x y v u Q I rx ry h
  obtain ⟨a, o, rfl, g, q⟩ := h
  obtain rfl : u = Value.ref a := ry
  exact d_in (by omega) I g rx fun s3 I3 => ⟨.bl o.isSome, H, I3, rfl, q⟩
theorem op_notInDct (hu : X.A.units + 100 < cLine) : OpR X (compareOp .NotIn) (fun x y H Q => ∃ a o, y = .ref a ∧ DGet H a x o ∧ Q (.bl (!o.isSome)) H) := by
  intro pins s σ H x y v u Q I rx ry h
  obtain ⟨a, o, rfl, g, q⟩ := h
  obtain rfl : u = Value.ref a := ry
  exact d_notIn (by omega) I g rx fun s3 I3 => ⟨.bl (!o.isSome), H, I3, rfl, q⟩
/-- a dict of the module's top, what it has at a text -/
def KAt (K : PySem.W.Frag) (w : World) (a : Addr) (z : Str) (o : Option V) : Prop := ∃ es n r, KDict K w a es n ∧ PySem.W.nsIn K a z = some r ∧ RelO o r
theorem WdR.at {a : Addr} {ks : List Tx} {us : List V} (r : WdR W a ks us) (z : Tx) : KAt W.K W.w a ⟨z.toArray⟩ (wdFind ks us z) := by
  obtain ⟨_, es, n, h1, h2, h3, h4⟩ := r
  obtain ⟨q, h5, h6⟩ := h4 z
  exact ⟨es, n, q, ⟨h1, h2, h3⟩, h5, h6⟩
theorem wdFind_isSome {τ τ' : Type} {z : Tx} : ∀ {ks : List Tx} {us : List τ} {vs : List τ'}, us.length = vs.length → (wdFind ks us z).isSome = (wdFind ks vs z).isSome
  | [], us, vs, h => by simp [wdFind]
  | k :: ks, [], vs, h => by cases vs <;> simp [wdFind] at h ⊢
  | k :: ks, u :: us, [], h => by simp at h
  | k :: ks, u :: us, v :: vs, h => by
    have ih := wdFind_isSome (z := z) (ks := ks) (us := us) (vs := vs) (by simpa using h)
    unfold wdFind at ih ⊢
    simp only [List.zip_cons_cons, List.find?_cons]
    by_cases e : k = z
    · simp [e]
    · simp only [e, decide_false]
      exact ih
theorem wdFind_rel {F : Hp} {z : Tx} {x : D} : ∀ {ks : List Tx} {ds : List D} {us : List V}, Rps W F ds us → wdFind ks ds z = some x → ∃ v, wdFind ks us z = some v ∧ Rp W F x v
  | [], ds, us, r, h => by simp [wdFind] at h
  | k :: ks, [], us, r, h => by simp [wdFind] at h
  | k :: ks, d :: ds, us, r, h => by
    obtain ⟨v, q, e, r1, r2⟩ := r
    subst e
    unfold wdFind at h ⊢
    simp only [List.zip_cons_cons, List.find?_cons] at h ⊢
    by_cases e : k = z
    · simp only [e, decide_true] at h ⊢
      cases h
      exact ⟨v, rfl, r1⟩
    · simp only [e, decide_false] at h ⊢
      exact wdFind_rel r2 h
theorem op_inKAt : OpR X (compareOp .In) (fun x y H Q => ∃ z a o, x = .str z ∧ y = .ref a ∧ KAt X.K X.w a z o ∧ Q (.bl o.isSome) H) := by
  intro pins s σ H x y v u Q I rx ry h
  obtain ⟨z, a, o, rfl, rfl, ⟨es, n, r, D, e, ro⟩, q⟩ := h
  exact op_in_kd D pins s σ H _ _ v u Q I rx ry ⟨z, r, rfl, rfl, e, by rw [← ro.isSome_eq]; exact q⟩
theorem op_notInKAt : OpR X (compareOp .NotIn) (fun x y H Q => ∃ z a o, x = .str z ∧ y = .ref a ∧ KAt X.K X.w a z o ∧ Q (.bl (!o.isSome)) H) := by
  intro pins s σ H x y v u Q I rx ry h
  obtain ⟨z, a, o, rfl, rfl, ⟨es, n, r, D, e, ro⟩, q⟩ := h
  exact op_notIn_kd D pins s σ H _ _ v u Q I rx ry ⟨z, r, rfl, rfl, e, by rw [← ro.isSome_eq]; exact q⟩
theorem inDct_of (hK : W.K = X.K) (hW : W.w = X.w) (s : Sr W α F S H) (rx : VlR W α F S.length x v) (ry : VlR W α F S.length y u) {b : Bool} (h : inDct x y S = some b) : (∃ a o, u = .ref a ∧ DGet H a v o ∧ o.isSome = b) ∨ ∃ z a o, v = .str z ∧ u = .ref a ∧ KAt X.K X.w a z o ∧ o.isSome = b := by
  cases x with
  | p n => cases h
  | d k =>
    cases y with
    | p n =>
      obtain ⟨e, hl⟩ := (show u = .ref (α n) ∧ n < S.length from ry)
      simp only [inDct] at h
      cases hn : S[n]? with
      | none => rw [hn] at h; cases h
      | some c =>
        rw [hn] at h
        cases c with
        | dct t kvs =>
          simp only at h
          by_cases hk : keyOk t k = true
          · rw [if_pos hk] at h
            cases h
            obtain ⟨ws, hd, rr⟩ := s.cel n _ hn
            have ez : (kvs.map (·.1)).zip (kvs.map (·.2)) = kvs := zip_fs kvs
            rcases dget_of hd (vls_paired rr) hk rx s.sub with ⟨e1, g⟩ | ⟨z, w, e1, hr, g⟩
            · rw [ez] at e1; exact .inl ⟨α n, none, e, g, by rw [e1]; rfl⟩
            · rw [ez] at e1; exact .inl ⟨α n, some w, e, g, by rw [e1]; rfl⟩
          · rw [if_neg hk] at h; cases h
        | _ => cases h
    | d y =>
      cases y with
      | dct t ks vs =>
        have h : (if keyOk t k && ks.length == vs.length then some (kvFind (ks.zip vs) k).isSome else none) = some b := h
        by_cases hk : (keyOk t k && ks.length == vs.length) = true
        · rw [if_pos hk] at h
          rw [Bool.and_eq_true] at hk
          cases h
          obtain ⟨a, ws, e, hd, rr⟩ := ry
          rcases dget_of (hd.mono (s.sub a)) (rps_paired rr) hk.1 rx s.sub with ⟨e1, g⟩ | ⟨z, w, e1, hr, g⟩
          · exact .inl ⟨a, none, e, g, by rw [e1]; rfl⟩
          · exact .inl ⟨a, some w, e, g, by rw [e1]; rfl⟩
        · rw [if_neg hk] at h; cases h
      | wd ks vs =>
        cases k with
        | str z =>
          cases h
          obtain ⟨a, us, e, hd, rr⟩ := ry
          have hd := hd.at z
          rw [hK, hW] at hd
          exact .inr ⟨_, a, _, rx, e, hd, wdFind_isSome rr.length.symm⟩
        | _ => cases h
      | _ => cases h
theorem cmp_mem (hK : W.K = X.K) (hW : W.w = X.w) (neg : Bool) (s : Sr W α F S H) (rx : VlR W α F S.length x v) (ry : VlR W α F S.length y u) (p : Post W E (VlX W) α F S H (cMem neg x y S) Q) :
    (rIn X.K neg v u H Q ∨ (∃ (c : Nat) (z : Str), v = .str ⟨#[c]⟩ ∧ u = .str z ∧ Q (.bl (if neg then !decide (c ∈ z.cps.toList) else decide (c ∈ z.cps.toList))) H) ∨
      ∃ d ds, Dp X.K H v d ∧ Dp X.K H u (.list ds) ∧ SeqAt.shaped d = true ∧ SeqAt.shaped (.list ds) = true ∧ Q (.bl (if neg then !(ds.any fun z => PyData.eqv z d) else ds.any fun z => PyData.eqv z d)) H) ∨
    (∃ a o, u = .ref a ∧ DGet H a v o ∧ Q (.bl (if neg then !o.isSome else o.isSome)) H) ∨ ∃ z a o, v = .str z ∧ u = .ref a ∧ KAt X.K X.w a z o ∧ Q (.bl (if neg then !o.isSome else o.isSome)) H := by
  unfold cMem inAny at p
  cases hi : inDct x y S with
  | some b =>
    rw [hi] at p
    rcases inDct_of hK hW s rx ry hi with ⟨a, o, e, g, ho⟩ | ⟨z, a, o, e, e', g, ho⟩
    · exact .inr (.inl ⟨a, o, e, g, by rw [ho]; exact p.here s rfl⟩)
    · exact .inr (.inr ⟨z, a, o, e, e', g, by rw [ho]; exact p.here s rfl⟩)
  | none =>
    rw [hi] at p
    exact .inl (cmp_mem0 hK neg s rx ry p)
/-- a comparison's rule -/
theorem cmp_rule (hK : W.K = X.K) (hW : W.w = X.w) (hu1 : X.A.units + 100 < cLine) {op : CmpOp} {o : Cm} (ho : cCm op = some o) : ∃ r : R2, OpR X (compareOp op) r ∧
    ∀ {α F S H x y v u} {Q : VK}, Sr W α F S H → VlR W α F S.length x v → VlR W α F S.length y u → Post W E (VlX W) α F S H (cmpop o x y S) Q → r v u H Q := by
  have hu : X.A.units + 64 < cLine := by omega
  cases op <;> simp [cCm] at ho <;> subst ho
  · refine ⟨_, op_eq.or (op_eqD hu), fun s rx ry p => ?_⟩
    rcases cmp_eqv hK false s rx ry p with ⟨b, h1, h2, q⟩ | q
    · exact .inl ⟨h1, by rw [h2]; exact q⟩
    · exact .inr q
  · refine ⟨_, op_ne.or (op_neD hu), fun s rx ry p => ?_⟩
    rcases cmp_eqv hK true s rx ry p with ⟨b, h1, h2, q⟩ | q
    · exact .inl ⟨h1, by rw [h2]; exact q⟩
    · exact .inr q
  · exact ⟨_, (op_lt.or op_lt_str).or (op_ltD hu), fun s rx ry p => cmp_ord hK (h' := PySem.W.dataLt) (f' := fun i j => decide (i < j)) (g' := fun i j => decide (i.cps.toList < j.cps.toList)) (fun _ _ => rfl) (fun _ _ => rfl) (fun _ _ => rfl) s rx ry p⟩
  · exact ⟨_, (op_le.or op_le_str).or (op_leD hu), fun s rx ry p => cmp_ord hK (h' := fun a b => !PySem.W.dataLt b a) (f' := fun i j => decide (i ≤ j)) (g' := fun i j => !decide (j.cps.toList < i.cps.toList)) (fun _ _ => rfl) (fun _ _ => rfl) (fun _ _ => rfl) s rx ry p⟩
  · exact ⟨_, (op_gt.or op_gt_str).or (op_gtD hu), fun s rx ry p => cmp_ord hK (h' := fun a b => PySem.W.dataLt b a) (f' := fun i j => decide (j < i)) (g' := fun i j => decide (j.cps.toList < i.cps.toList)) (fun _ _ => rfl) (fun _ _ => rfl) (fun _ _ => rfl) s rx ry p⟩
  · exact ⟨_, (op_ge.or op_ge_str).or (op_geD hu), fun s rx ry p => cmp_ord hK (h' := fun a b => !PySem.W.dataLt a b) (f' := fun i j => decide (j ≤ i)) (g' := fun i j => !decide (i.cps.toList < j.cps.toList)) (fun _ _ => rfl) (fun _ _ => rfl) (fun _ _ => rfl) s rx ry p⟩
  · exact ⟨_, op_isN.or op_isBl, fun s rx ry p => cmp_is false s rx ry p⟩
  · exact ⟨_, op_notN.or op_notBl, fun s rx ry p => cmp_is true s rx ry p⟩
  · exact ⟨_, (op_in_seq.or (op_in_sign.or (op_inD (Nat.lt_of_le_of_lt (by omega) hu1)))).or ((op_inDct hu1).or op_inKAt), fun s rx ry p => cmp_mem hK hW false s rx ry p⟩
  · exact ⟨_, (op_notIn_seq.or (op_notIn_sign.or (op_notInD (Nat.lt_of_le_of_lt (by omega) hu1)))).or ((op_notInDct hu1).or op_notInKAt), fun s rx ry p => cmp_mem hK hW true s rx ry p⟩
/-- a comparison's answer is a bool -/
theorem cmpop_bl (o : Cm) (x y : Vl) (S : Sto) : cmpop o x y S = .bad ∨ ∃ b, cmpop o x y S = .ok (.d (.bl b)) S := by
  have ord : ∀ f g h, cOrd f g h x y S = .bad ∨ ∃ b, cOrd f g h x y S = .ok (.d (.bl b)) S := fun f g h => by
    unfold cOrd
    split
    · split
      · split
        · exact .inr ⟨_, rfl⟩
        · exact .inl rfl
      · exact .inl rfl
    · split
      · split
        · exact .inr ⟨_, rfl⟩
        · exact .inl rfl
      · exact .inl rfl
    · split
      · exact .inr ⟨_, rfl⟩
      · exact .inl rfl
    · split
      · exact .inr ⟨_, rfl⟩
      · exact .inl rfl
    · exact .inl rfl
  have is : ∀ n, cIs n x y S = .bad ∨ ∃ b, cIs n x y S = .ok (.d (.bl b)) S := fun n => by
    unfold cIs
    split
    · exact .inr ⟨_, rfl⟩
    · split
      · exact .inr ⟨_, rfl⟩
      · exact .inl rfl
    · exact .inl rfl
  have mem : ∀ n, cMem n x y S = .bad ∨ ∃ b, cMem n x y S = .ok (.d (.bl b)) S := fun n => by
    unfold cMem
    split
    · exact .inr ⟨_, rfl⟩
    · exact .inl rfl
  have eq : ∀ n, cEqv n x y S = .bad ∨ ∃ b, cEqv n x y S = .ok (.d (.bl b)) S := fun n => by
    unfold cEqv
    split
    · split
      · exact .inr ⟨_, rfl⟩
      · exact .inl rfl
    · exact .inl rfl
  cases o <;> unfold cmpop <;> first | exact ord _ _ _ | exact is _ | exact mem _ | exact eq _
theorem de_cmp (hK : W.K = X.K) (hW : W.w = X.w) (hu : X.A.units + 100 < cLine) {op : CmpOp} {o : Cm} (ho : cCm op = some o) (hm : behindInMarks op b = false) (ha : PE X a (tD W E fa)) (hb : PE X b (tD W E fb)) :
    PE X (.Compare a [op] [b] pos) (tD W E fun ρ S => (fa ρ S).bind fun x S => (fb ρ S).bind fun y S => cmpop o x y S) := by
  obtain ⟨r, hr, k⟩ := cmp_rule (E := E) hK hW hu ho
  exact peI (pe_cmpR hr ha hb hm) fun σ H Q h => two h fun s rx ry p => k s rx ry p
/-- a value that is a bool, as a test's answer -/
theorem Post.test {r : Res Vl} {Q : Bool → Hp → Prop} (p : Post W E RelE α F S H (r.bind tru) Q) (hr : r = .bad ∨ (∃ b S', r = .ok (.d (.bl b)) S') ∨ ∃ e S', r = .exc e S') : Post W E (VlX W) α F S H r fun x H' => ∃ k, x = .bl k ∧ Q k H' := by
  rcases hr with rfl | ⟨b, S', rfl⟩ | ⟨e, S', rfl⟩
  · exact p
  · exact fun w α' F' H' x s q => ⟨b, q, p b α' F' H' x s rfl⟩
  · exact p
theorem dt_cmp (hK : W.K = X.K) (hW : W.w = X.w) (hu : X.A.units + 100 < cLine) {op : CmpOp} {o : Cm} (ho : cCm op = some o) (hm : behindInMarks op b = false) (ha : PE X a (tD W E fa)) (hb : PE X b (tD W E fb)) :
    PT X (.Compare a [op] [b] pos) (tDT W E fun ρ S => ((fa ρ S).bind fun x S => (fb ρ S).bind fun y S => cmpop o x y S).bind tru) := by
  obtain ⟨r, hr, k⟩ := cmp_rule (E := E) hK hW hu ho
  refine ptI (pt_cmpR hr ha hb hm) fun σ H Q ⟨α, F, ρ, S, s, er, p⟩ => ?_
  refine two (g := cmpop o) (fa := fa) (fb := fb) (r := r) ⟨α, F, ρ, S, s, er, ?_⟩ fun s rx ry p => k s rx ry p
  refine p.test ?_
  cases ha : fa ρ S with
  | bad => exact .inl rfl
  | exc e S' => exact .inr (.inr ⟨e, S', rfl⟩)
  | ok x S1 =>
    cases hb : fb ρ S1 with
    | bad => exact .inl (by simp [Res.bind, hb])
    | exc e S' => exact .inr (.inr ⟨e, S', by simp [Res.bind, hb]⟩)
    | ok y S2 =>
      rcases cmpop_bl o x y S2 with h | ⟨b, h⟩
      · exact .inl (by simp [Res.bind, hb, h])
      · exact .inr (.inl ⟨b, S2, by simp [Res.bind, hb, h]⟩)
def chainF (fa fb fc : Env → Sto → Res Vl) (c c' : Cm) : Env → Sto → Res Vl := fun ρ S => (fa ρ S).bind fun x S => (fb ρ S).bind fun y S => (cmpop c x y S).bind fun r S => match r with
    | .d (.bl true) => (fc ρ S).bind fun z S => cmpop c' y z S
    | .d (.bl false) => .ok (.d (.bl false)) S
    | _ => .bad
theorem chain_of {fc : Env → Sto → Res Vl} {c c' : Cm} {r r' : R2} (k : ∀ {α F S H x y v u} {Q : VK}, Sr W α F S H → VlR W α F S.length x v → VlR W α F S.length y u → Post W E (VlX W) α F S H (cmpop c x y S) Q → r v u H Q)
    (k' : ∀ {α F S H x y v u} {Q : VK}, Sr W α F S H → VlR W α F S.length x v → VlR W α F S.length y u → Post W E (VlX W) α F S H (cmpop c' x y S) Q → r' v u H Q)
    {σ : L2.St} {H : Hp} {Q : VK} (h : tD W E (chainF fa fb fc c c') σ H Q) : tChain r r' (tD W E fa) (tD W E fb) (tD W E fc) σ H Q := by
  obtain ⟨α, F, ρ, S, s, er, p⟩ := h
  refine ⟨α, F, ρ, S, s, er, (Post.bind p).imp fun v H1 ⟨α1, F1, x, S1, x1, s1, r1, p1⟩ => ?_⟩
  refine ⟨α1, F1, ρ, S1, s1, er.ext x1, (Post.bind p1).imp fun u H2 ⟨α2, F2, y, S2, x2, s2, r2, p2⟩ => ?_⟩
  refine k s2 (r1.ext x2) r2 ((Post.bind (Rel := VlX W) p2).imp fun w H3 ⟨α3, F3, z, S3, x3, s3, r3, p3⟩ => ?_)
  cases z with
  | p n => exact p3.elim
  | d z =>
    cases z with
    | bl z =>
      refine ⟨z, r3, ?_⟩
      cases z with
      | false =>
        rw [if_neg Bool.false_ne_true]
        exact p3.here s3 rfl
      | true =>
        rw [if_pos rfl]
        refine ⟨α3, F3, ρ, S3, s3, (er.ext x1).ext (x2.trans x3), (Post.bind p3).imp fun q H4 ⟨α4, F4, z, S4, x4, s4, r4, p4⟩ => ?_⟩
        exact k' s4 (r2.ext (x3.trans x4)) r4 p4
    | _ => exact p3.elim
theorem de_chain (hK : W.K = X.K) (hW : W.w = X.w) (hu : X.A.units + 100 < cLine) {c : Expr} {fc : Env → Sto → Res Vl} {op op' : CmpOp} {o o' : Cm} (ho : cCm op = some o) (ho' : cCm op' = some o') (hm : lastMarks [op, op'] [b, c] = false)
    (ha : PE X a (tD W E fa)) (hb : PE X b (tD W E fb)) (hc : PE X c (tD W E fc)) : PE X (.Compare a [op, op'] [b, c] pos) (tD W E (chainF fa fb fc o o')) := by
  obtain ⟨r, hr, k⟩ := cmp_rule (E := E) hK hW hu ho
  obtain ⟨r', hr', k'⟩ := cmp_rule (E := E) hK hW hu ho'
  exact peI (pe_chain hr hr' ha hb hc hm) fun σ H Q h => chain_of k k' h
theorem dt_chain (hK : W.K = X.K) (hW : W.w = X.w) (hu : X.A.units + 100 < cLine) {c : Expr} {fc : Env → Sto → Res Vl} {op op' : CmpOp} {o o' : Cm} (ho : cCm op = some o) (ho' : cCm op' = some o') (hm : lastMarks [op, op'] [b, c] = false)
    (ha : PE X a (tD W E fa)) (hb : PE X b (tD W E fb)) (hc : PE X c (tD W E fc)) : PT X (.Compare a [op, op'] [b, c] pos) (tDT W E fun ρ S => (chainF fa fb fc o o' ρ S).bind tru) := by
  obtain ⟨r, hr, k⟩ := cmp_rule (E := E) hK hW hu ho
  obtain ⟨r', hr', k'⟩ := cmp_rule (E := E) hK hW hu ho'
  refine ptI (pt_chain hr hr' ha hb hc hm) fun σ H Q ⟨α, F, ρ, S, s, er, p⟩ => ?_
  refine chain_of k k' ⟨α, F, ρ, S, s, er, p.test ?_⟩
  unfold chainF
  cases ha : fa ρ S with
  | bad => exact .inl rfl
  | exc e S' => exact .inr (.inr ⟨e, S', rfl⟩)
  | ok x S1 =>
    simp only [Res.bind]
    cases hb : fb ρ S1 with
    | bad => exact .inl rfl
    | exc e S' => exact .inr (.inr ⟨e, S', rfl⟩)
    | ok y S2 =>
      simp only
      rcases cmpop_bl o x y S2 with h | ⟨b, h⟩
      · exact .inl (by rw [h])
      · rw [h]
        simp only
        cases b with
        | false => exact .inr (.inl ⟨false, S2, rfl⟩)
        | true =>
          simp only
          cases hc : fc ρ S2 with
          | bad => exact .inl rfl
          | exc e S' => exact .inr (.inr ⟨e, S', rfl⟩)
          | ok z S3 =>
            simp only
            rcases cmpop_bl o' y z S3 with h | ⟨b, h⟩
            · exact .inl h
            · exact .inr (.inl ⟨b, S3, h⟩)
end
end Z
end

section
set_option maxHeartbeats 1000000
/-! Z9: truth, bool operators, displays, subscripts, slices. -/
namespace Z
open PySem L2

section
variable {X : Cx} {W : Wd} {E : XK} {a b c e : Expr} {es : List Expr} {pos : Pos} {fa fb fc : Env → Sto → Res Vl}
variable {α : Nat → Addr} {F : Hp} {S : Sto} {H : Hp} {Q : VK} {x y : Vl} {v u : V}

theorem isEmpty_len {τ τ' : Type} {xs : List τ} {ys : List τ'} (h : xs.length = ys.length) : xs.isEmpty = ys.isEmpty := by
  cases xs <;> cases ys <;> simp at h ⊢
theorem tru_of (hK : W.K = X.K) {Qb : Bool → Hp → Prop} (s : Sr W α F S H) (r : VlR W α F S.length x v) (p : Post W E RelE α F S H (tru x S) Qb) : ∃ k, TruV X.K v H k ∧ Qb k H := by
  unfold tru at p
  cases e : truthy x S with
  | none => rw [e] at p; exact p.elim
  | some k =>
    rw [e] at p
    refine ⟨k, ?_, p.here s rfl⟩
    cases x with
    | p n =>
      obtain ⟨ev, hl⟩ := (show v = .ref (α n) ∧ n < S.length from r)
      simp only [truthy] at e
      cases hn : S[n]? with
      | none => rw [hn] at e; cases e
      | some c =>
        rw [hn] at e
        subst ev
        cases c with
        | lst xs =>
          obtain ⟨vs, hv, rr⟩ := s.cel n _ hn
          simp only [Option.some.injEq] at e
          exact .inl ⟨vs, .of hv, by rw [← isEmpty_len rr.length, e]⟩
        | dct t kvs =>
          obtain ⟨ws, hd, rr⟩ := s.cel n _ hn
          simp only at e
          by_cases ht : (!t) = true
          · rw [if_pos ht] at e
            cases e
            rcases hd with ⟨_, kk, h1, h2, h3⟩ | ⟨e1, _⟩
            · refine .inr (.inr ⟨_, h3, ?_⟩)
              rw [isEmpty_len (dct_len h1 h2)]
            · rw [e1] at ht; cases ht
          · rw [if_neg ht] at e; cases e
        | _ => cases e
    | d d =>
      have r : Rp W F d v := r
      cases d with
      | non => cases e; cases (show v = V.non from r); rfl
      | bl b => cases e; cases (show v = V.bl _ from r); rfl
      | int i => cases e; cases (show v = V.int _ from r); rfl
      | str z =>
        cases (show v = V.str ⟨z.toArray⟩ from r)
        have e : (if decide (z.length ≤ most) then some ((z.length : Int) != 0) else none) = some k := e
        by_cases hz : z.length ≤ most
        · rw [if_pos (by simpa using hz)] at e
          refine ⟨by rw [str_len, ← most_eq]; exact hz, ?_⟩
          rw [str_len]
          exact (Option.some.inj e).symm
        · rw [if_neg (by simpa using hz)] at e; cases e
      | lst ds =>
        cases e
        obtain ⟨a, vs, rfl, q, rr⟩ := r
        exact .inl ⟨vs, .of (s.sub _ _ q), by rw [isEmpty_len rr.length]⟩
      | tup ds =>
        cases e
        obtain ⟨a, vs, rfl, q, rr⟩ := r
        exact .inr (.inl ⟨vs, by rw [← hK]; exact s.sub.sqT (.of q), by rw [isEmpty_len rr.length]⟩)
      | dct t ks ds =>
        have e : (if !t && ks.length == ds.length then some (!ks.isEmpty) else none) = some k := e
        by_cases ht : (!t && ks.length == ds.length) = true
        · rw [if_pos ht] at e
          cases e
          rw [Bool.and_eq_true] at ht
          obtain ⟨a, ws, rfl, hd, rr⟩ := r
          rcases hd with ⟨_, kk, h1, h2, h3⟩ | ⟨e1, _⟩
          · refine .inr (.inr ⟨_, s.sub _ _ h3, ?_⟩)
            have := congrArg List.length h1
            rw [isEmpty_len (show ks.length = (kk.zip ws).length by simp at this; simp [this, h2])]
          · rw [e1] at ht; exact absurd ht.1 (by decide)
        · rw [if_neg ht] at e; cases e
      | _ => cases e
/-- a test by a value's truth -/
theorem dt_truth (hK : W.K = X.K) (ha : PE X a (tD W E fa)) (he : ∀ whole, isTrue a X.env whole = (do let v ← whole; standAt a.pos; holding [v] (PySem.truthy v))) : PT X a (tDT W E fun ρ S => (fa ρ S).bind tru) :=
  ptI (pt_truth ha he) fun σ H Q ⟨α, F, ρ, S, s, er, p⟩ => ⟨α, F, ρ, S, s, er, (Post.bind p).imp fun v H1 ⟨α1, F1, x, S1, x1, s1, r1, p1⟩ => tru_of hK s1 r1 p1⟩

/-! ### and, or, not -/
def andF (fa fb : Env → Sto → Res Vl) : Env → Sto → Res Vl := fun ρ S => (fa ρ S).bind fun x S => (tru x S).bind fun k S => if k then fb ρ S else .ok x S
def orF (fa fb : Env → Sto → Res Vl) : Env → Sto → Res Vl := fun ρ S => (fa ρ S).bind fun x S => (tru x S).bind fun k S => if k then .ok x S else fb ρ S
def notF (fa : Env → Sto → Res Vl) : Env → Sto → Res Vl := fun ρ S => (fa ρ S).bind fun x S => (tru x S).bind fun k S => .ok (.d (.bl (!k))) S
def iteF' (fc fa fb : Env → Sto → Res Vl) : Env → Sto → Res Vl := fun ρ S => (fc ρ S).bind fun x S => (tru x S).bind fun k S => if k then fa ρ S else fb ρ S
theorem tru_same (x : Vl) (S : Sto) : tru x S = .bad ∨ ∃ k, tru x S = .ok k S := by
  unfold tru
  split
  · exact .inr ⟨_, rfl⟩
  · exact .inl rfl
theorem and_test (fa fb : Env → Sto → Res Vl) (ρ : Env) (S : Sto) : (andF fa fb ρ S).bind tru = ((fa ρ S).bind tru).bind fun k S => if k then (fb ρ S).bind tru else .ok false S := by
  unfold andF
  cases fa ρ S with
  | bad => rfl
  | exc e S' => rfl
  | ok x S1 =>
    simp only [Res.bind]
    rcases tru_same x S1 with h | ⟨k, h⟩
    · simp only [h]
    · simp only [h]
      cases k
      · simp [h]
      · simp
theorem or_test (fa fb : Env → Sto → Res Vl) (ρ : Env) (S : Sto) : (orF fa fb ρ S).bind tru = ((fa ρ S).bind tru).bind fun k S => if k then .ok true S else (fb ρ S).bind tru := by
  unfold orF
  cases fa ρ S with
  | bad => rfl
  | exc e S' => rfl
  | ok x S1 =>
    simp only [Res.bind]
    rcases tru_same x S1 with h | ⟨k, h⟩
    · simp only [h]
    · simp only [h]
      cases k
      · simp
      · simp [h]
theorem not_test (fa : Env → Sto → Res Vl) (ρ : Env) (S : Sto) : (notF fa ρ S).bind tru = ((fa ρ S).bind tru).bind fun k S => .ok (!k) S := by
  unfold notF
  cases fa ρ S with
  | bad => rfl
  | exc e S' => rfl
  | ok x S1 =>
    simp only [Res.bind]
    rcases tru_same x S1 with h | ⟨k, h⟩
    · simp only [h]
    · simp only [h]
      rfl
theorem ite_test (fc fa fb : Env → Sto → Res Vl) (ρ : Env) (S : Sto) : (iteF' fc fa fb ρ S).bind tru = ((fc ρ S).bind tru).bind fun k S => if k then (fa ρ S).bind tru else (fb ρ S).bind tru := by
  unfold iteF'
  cases fc ρ S with
  | bad => rfl
  | exc e S' => rfl
  | ok x S1 =>
    simp only [Res.bind]
    rcases tru_same x S1 with h | ⟨k, h⟩
    · simp only [h]
    · simp only [h]
      cases k <;> simp
/-- a test, then two ways -/
theorem test_then {t u : TT} {ft fu fw : Env → Sto → Res Bool} {σ : L2.St} {H : Hp} {Q : Bool → Hp → Prop} (h : tDT W E (fun ρ S => (ft ρ S).bind fun k S => if k then fu ρ S else fw ρ S) σ H Q) :
    tDT W E ft σ H fun k H1 => if k = true then tDT W E fu σ H1 Q else tDT W E fw σ H1 Q := by
  obtain ⟨α, F, ρ, S, s, er, p⟩ := h
  refine ⟨α, F, ρ, S, s, er, (Post.bind p).imp fun k H1 ⟨α1, F1, k', S1, x1, s1, r1, p1⟩ => ?_⟩
  cases (show k' = k from r1)
  cases k with
  | true => exact ⟨α1, F1, ρ, S1, s1, er.ext x1, p1⟩
  | false => exact ⟨α1, F1, ρ, S1, s1, er.ext x1, p1⟩
theorem ok_dt {k : Bool} {σ : L2.St} {H : Hp} {Q : Bool → Hp → Prop} (h : tDT W E (fun _ S => .ok k S) σ H Q) : Q k H := by
  obtain ⟨α, F, ρ, S, s, er, p⟩ := h
  exact p.here s rfl
theorem tDT_congr {f g : Env → Sto → Res Bool} (h : ∀ ρ S, f ρ S = g ρ S) {σ : L2.St} {H : Hp} {Q : Bool → Hp → Prop} (q : tDT W E f σ H Q) : tDT W E g σ H Q := by
  have : f = g := funext fun ρ => funext fun S => h ρ S
  rw [← this]; exact q
theorem dw_and (ha : PT X a (tDT W E fun ρ S => (fa ρ S).bind tru)) (hb : PW X (.BoolOp .And (b :: es) pos) (tDT W E fun ρ S => (fb ρ S).bind tru)) : PW X (.BoolOp .And (a :: b :: es) pos) (tDT W E fun ρ S => (andF fa fb ρ S).bind tru) := by
  refine ⟨fun whole pins s σ H Q I h => (pw_and ha hb).run whole pins s σ H Q I ?_⟩
  have h := test_then (t := tYes) (u := tYes) (ft := fun ρ S => (fa ρ S).bind tru) (fu := fun ρ S => (fb ρ S).bind tru) (fw := fun _ S => .ok false S) (tDT_congr (and_test fa fb) h)
  obtain ⟨α, F, ρ, S, s, er, p⟩ := h
  refine ⟨α, F, ρ, S, s, er, p.imp fun k H1 q => ?_⟩
  cases k with
  | true => exact q
  | false => exact ok_dt q
theorem dw_or (ha : PT X a (tDT W E fun ρ S => (fa ρ S).bind tru)) (hb : PW X (.BoolOp .Or (b :: es) pos) (tDT W E fun ρ S => (fb ρ S).bind tru)) : PW X (.BoolOp .Or (a :: b :: es) pos) (tDT W E fun ρ S => (orF fa fb ρ S).bind tru) := by
  refine ⟨fun whole pins s σ H Q I h => (pw_or ha hb).run whole pins s σ H Q I ?_⟩
  have h := test_then (t := tYes) (u := tYes) (ft := fun ρ S => (fa ρ S).bind tru) (fu := fun _ S => .ok true S) (fw := fun ρ S => (fb ρ S).bind tru) (tDT_congr (or_test fa fb) h)
  obtain ⟨α, F, ρ, S, s, er, p⟩ := h
  refine ⟨α, F, ρ, S, s, er, p.imp fun k H1 q => ?_⟩
  cases k with
  | true => exact ok_dt q
  | false => exact q
theorem dt_not (ha : PT X a (tDT W E fun ρ S => (fa ρ S).bind tru)) : PT X (.UnaryOp .Not a pos) (tDT W E fun ρ S => (notF fa ρ S).bind tru) := by
  refine ptI (pt_not ha) fun σ H Q h => ?_
  obtain ⟨α, F, ρ, S, s, er, p⟩ := tDT_congr (not_test fa) h
  refine ⟨α, F, ρ, S, s, er, (Post.bind p).imp fun k H1 ⟨α1, F1, k', S1, x1, s1, r1, p1⟩ => ?_⟩
  cases (show k' = k from r1)
  exact p1.here s1 rfl
theorem pt_ifExp {tc ta tb : TT} (hc : PT X c tc) (ha : PT X a ta) (hb : PT X b tb) : PT X (.IfExp c a b pos) (fun σ H Q => tc σ H fun k H1 => if k = true then ta σ H1 Q else tb σ H1 Q) := by
  refine ⟨fun pins s σ H Q I h => ?_⟩
  show wpAny _ _ (isTrue c X.env (eval c X.env) >>= fun k => if k = true then isTrue a X.env (eval a X.env) else isTrue b X.env (eval b X.env)) _ _ _
  refine wpAny_bind (thn (hc.run pins s σ H _ I h) fun d s1 ⟨H1, I1, q1⟩ => ?_)
  cases d with
  | true => exact ha.run pins s1 σ H1 Q I1 q1
  | false => exact hb.run pins s1 σ H1 Q I1 q1
theorem dt_ite (hc : PT X c (tDT W E fun ρ S => (fc ρ S).bind tru)) (ha : PT X a (tDT W E fun ρ S => (fa ρ S).bind tru)) (hb : PT X b (tDT W E fun ρ S => (fb ρ S).bind tru)) :
    PT X (.IfExp c a b pos) (tDT W E fun ρ S => (iteF' fc fa fb ρ S).bind tru) := by
  refine ptI (pt_ifExp hc ha hb) fun σ H Q h => ?_
  exact test_then (t := tYes) (u := tYes) (ft := fun ρ S => (fc ρ S).bind tru) (fu := fun ρ S => (fa ρ S).bind tru) (fw := fun ρ S => (fb ρ S).bind tru) (tDT_congr (ite_test fc fa fb) h)
/-- a value's truth, then two ways with the value -/
theorem tru_then (hK : W.K = X.K) {τ β : Type} {Rel : (Nat → Addr) → Hp → Sto → Hp → τ → β → Prop} {Qx : β → Hp → Prop} {g : Bool → Sto → Res τ} (s : Sr W α F S H) (r : VlR W α F S.length x v) (p : Post W E Rel α F S H ((tru x S).bind g) Qx) :
    ∃ k, TruV X.K v H k ∧ Post W E Rel α F S H (g k S) Qx := by
  rcases tru_same x S with h | ⟨k, h⟩
  · rw [h] at p; exact p.elim
  · rw [h] at p
    have : Post W E RelE α F S H (tru x S) (fun k' _ => k' = k) := by
      rw [h]
      exact fun w α' F' H' _ _ q => q.symm
    obtain ⟨k', t, e⟩ := tru_of hK s r this
    subst e
    exact ⟨k', t, p⟩
theorem de_and (hK : W.K = X.K) (ha : PE X a (tD W E fa)) (hb : PE X (.BoolOp .And (b :: es) pos) (tD W E fb)) : PE X (.BoolOp .And (a :: b :: es) pos) (tD W E (andF fa fb)) := by
  refine peI (pe_andT ha hb) fun σ H Q ⟨α, F, ρ, S, s, er, p⟩ => ⟨α, F, ρ, S, s, er, (Post.bind p).imp fun v H1 ⟨α1, F1, x, S1, x1, s1, r1, p1⟩ => ?_⟩
  obtain ⟨k, t, p2⟩ := tru_then hK s1 r1 p1
  refine ⟨k, t, ?_⟩
  cases k with
  | true => exact ⟨α1, F1, ρ, S1, s1, er.ext x1, p2⟩
  | false => exact p2.here s1 r1
theorem de_or (hK : W.K = X.K) (ha : PE X a (tD W E fa)) (hb : PE X (.BoolOp .Or (b :: es) pos) (tD W E fb)) : PE X (.BoolOp .Or (a :: b :: es) pos) (tD W E (orF fa fb)) := by
  refine peI (pe_orT ha hb) fun σ H Q ⟨α, F, ρ, S, s, er, p⟩ => ⟨α, F, ρ, S, s, er, (Post.bind p).imp fun v H1 ⟨α1, F1, x, S1, x1, s1, r1, p1⟩ => ?_⟩
  obtain ⟨k, t, p2⟩ := tru_then hK s1 r1 p1
  refine ⟨k, t, ?_⟩
  cases k with
  | false => exact ⟨α1, F1, ρ, S1, s1, er.ext x1, p2⟩
  | true => exact p2.here s1 r1
theorem de_not (hK : W.K = X.K) (ha : PE X a (tD W E fa)) : PE X (.UnaryOp .Not a pos) (tD W E (notF fa)) := by
  refine peI (pe_notT ha) fun σ H Q ⟨α, F, ρ, S, s, er, p⟩ => ⟨α, F, ρ, S, s, er, (Post.bind p).imp fun v H1 ⟨α1, F1, x, S1, x1, s1, r1, p1⟩ => ?_⟩
  obtain ⟨k, t, p2⟩ := tru_then hK s1 r1 p1
  exact ⟨k, t, p2.here s1 rfl⟩
theorem de_ite (hc : PT X c (tDT W E fun ρ S => (fc ρ S).bind tru)) (ha : PE X a (tD W E fa)) (hb : PE X b (tD W E fb)) : PE X (.IfExp c a b pos) (tD W E (iteF' fc fa fb)) := by
  refine peI (pe_ifExp hc ha hb) fun σ H Q ⟨α, F, ρ, S, s, er, p⟩ => ?_
  have e : iteF' fc fa fb ρ S = ((fc ρ S).bind tru).bind fun k S => if k then fa ρ S else fb ρ S := by
    unfold iteF'
    cases fc ρ S <;> rfl
  rw [e] at p
  refine ⟨α, F, ρ, S, s, er, (Post.bind p).imp fun k H1 ⟨α1, F1, k', S1, x1, s1, r1, p1⟩ => ?_⟩
  cases (show k' = k from r1)
  cases k with
  | true => exact ⟨α1, F1, ρ, S1, s1, er.ext x1, p1⟩
  | false => exact ⟨α1, F1, ρ, S1, s1, er.ext x1, p1⟩

/-! ### lists of expressions -/
theorem star_cons (h : notStar e = true) {env : PySem.Env} : starEach (e :: es) env = (false, eval e env) :: starEach es env := by
  cases e <;> first | rfl | (simp [notStar] at h)
theorem star_none : ∀ {es : List Expr} {env : PySem.Env} {pos : Pos}, es.all notStar = true → (backTo pos (starEach es env)).any (·.1) = false
  | [], _, _, _ => rfl
  | e :: es, env, pos, h => by
    rw [List.all_cons, Bool.and_eq_true] at h
    rw [star_cons h.1]
    show (false || (backTo pos (starEach es env)).any (·.1)) = false
    rw [star_none h.2]; rfl
def nilF : Env → Sto → Res (List Vl) := fun _ S => .ok [] S
def consF (fa : Env → Sto → Res Vl) (fs : Env → Sto → Res (List Vl)) : Env → Sto → Res (List Vl) := fun ρ S => (fa ρ S).bind fun v S => (fs ρ S).bind fun vs S => .ok (v :: vs) S
theorem da_nil : PA X [] (tDA W E nilF) := paI pa_nil fun σ H Q ⟨α, F, ρ, S, s, er, p⟩ => p.here s .nil
theorem da_cons {fs : Env → Sto → Res (List Vl)} (hn : notStar e = true) (he : PE X e (tD W E fa)) (hs : PA X es (tDA W E fs)) : PA X (e :: es) (tDA W E (consF fa fs)) :=
  paI (pa_cons he hs (star_cons hn)) fun σ H Q ⟨α, F, ρ, S, s, er, p⟩ => ⟨α, F, ρ, S, s, er, (Post.bind p).imp fun v H1 ⟨α1, F1, x, S1, x1, s1, r1, p1⟩ =>
    ⟨α1, F1, ρ, S1, s1, er.ext x1, (Post.bind (Rel := VlXs W) p1).imp fun vs H2 ⟨α2, F2, xs, S2, x2, s2, r2, p2⟩ => p2.here s2 (.cons (r1.ext x2) r2)⟩⟩

/-! ### displays -/
def tupF (fs : Env → Sto → Res (List Vl)) : Env → Sto → Res Vl := fun ρ S => (fs ρ S).bind fun vs S => match pures vs with
    | some ds => if decide (ds.length ≤ most) then .ok (.d (.tup ds)) S else .bad
    | none => .bad
theorem de_tup {fs : Env → Sto → Res (List Vl)} {k : Nat} (hs : PA X es (tDA W E fs)) : PE X (.Tuple es k pos) (tD W E (tupF fs)) :=
  peI (pe_tup hs) fun σ H Q ⟨α, F, ρ, S, s, er, p⟩ => ⟨α, F, ρ, S, s, er, (Post.bind (Rel := VlXs W) p).imp fun vs H1 ⟨α1, F1, xs, S1, x1, s1, r1, p1⟩ => by
    dsimp only at p1
    cases hp : pures xs with
    | none => rw [hp] at p1; exact p1.elim
    | some ds =>
      rw [hp] at p1
      simp only at p1
      have rr := r1.pures hp
      by_cases hz : ds.length ≤ most
      · rw [if_pos (by simpa using hz)] at p1
        exact ⟨by rw [← rr.length, ← most_eq]; exact hz, fun l hl => fin_tup p1 s1 rr hl⟩
      · rw [if_neg (by simpa using hz)] at p1
        exact p1.elim⟩
theorem de_lst {fs : Env → Sto → Res (List Vl)} {cell : Bool} (hs : PA X es (tDA W E fs)) : PE X (.List es pos) (tD W E fun ρ S => (fs ρ S).bind fun vs S => newList cell vs S) :=
  peI (pe_lst hs) fun σ H Q ⟨α, F, ρ, S, s, er, p⟩ => ⟨α, F, ρ, S, s, er, (Post.bind (Rel := VlXs W) p).imp fun vs H1 ⟨α1, F1, xs, S1, x1, s1, r1, p1⟩ => fin_new p1 s1 r1⟩

/-! ### subscripts -/
theorem Rps.atI {ds : List D} {vs : List V} (r : Rps W F ds vs) {i : Int} {d : D} (h : L2.atI ds i = some d) : ∃ w, L2.atI vs i = some w ∧ Rp W F d w := by
  unfold L2.atI at h ⊢
  rw [← r.length]
  cases e : ixN ds.length i with
  | none => rw [e] at h; cases h
  | some j => rw [e] at h; exact r.get h
theorem VlRs.atI {ds : List Vl} {vs : List V} {N : Nat} (r : VlRs W α F N ds vs) {i : Int} {d : Vl} (h : L2.atI ds i = some d) : ∃ w, L2.atI vs i = some w ∧ VlR W α F N d w := by
  unfold L2.atI at h ⊢
  rw [← r.length]
  cases e : ixN ds.length i with
  | none => rw [e] at h; cases h
  | some j => rw [e] at h; exact r.get h
theorem ix_dct (hu : X.A.units + 100 < cLine) : IxR X (fun x y H Q => ∃ a v, x = .ref a ∧ DGet H a y (some v) ∧ Q v H) := by
  intro value slice pins s σ H x y v u Q I rx ry h hs
  obtain ⟨a, w, rfl, g, q⟩ := h
  obtain rfl : v = Value.ref a := rx
  exact PyProof.Rows.tail_any (dict_typeIs I g) PySem.F.slot_dict_getitem.lookup (d_getItem (by omega) I g ry fun w' s3 I3 rw' => ⟨w, H, I3, rw', q⟩) hs
theorem ix_kat : IxR X (fun x y H Q => ∃ a z w, x = .ref a ∧ y = .str z ∧ KAt X.K X.w a z (some w) ∧ Q w H) := by
  intro value slice pins s σ H x y v u Q I rx ry h hs
  obtain ⟨a, z, w, rfl, rfl, ⟨es, n, r, D, e, ro⟩, q⟩ := h
  cases r with
  | none => exact absurd ro (by simp [RelO])
  | some u0 => exact ix_kdict value slice pins s σ H _ _ v u Q I rx ry ⟨a, z, w, rfl, rfl, ⟨es, n, u0, D.at_, D.lit, e, ro⟩, q⟩ hs
theorem ix_of (hK : W.K = X.K) (hW : W.w = X.w) (s : Sr W α F S H) (rx : VlR W α F S.length x v) (ry : VlR W α F S.length y u) (p : Post W E (VlX W) α F S H (index x y S) Q) : (rIx X.K v u H Q ∨ ∃ a w, v = .ref a ∧ DGet H a u (some w) ∧ Q w H) ∨ ∃ a z w, v = .ref a ∧ u = .str z ∧ KAt X.K X.w a z (some w) ∧ Q w H := by
  cases x with
  | p n =>
    obtain ⟨ev, hl⟩ := (show v = .ref (α n) ∧ n < S.length from rx)
    cases y with
    | p m => exact p.elim
    | d y =>
      simp only [index] at p
      cases hn : S[n]? with
      | none => rw [hn] at p; exact p.elim
      | some c =>
        rw [hn] at p
        obtain hc := s.cel n _ hn
        cases c with
        | lst xs =>
          obtain ⟨vs, hv, rr⟩ := hc
          cases y with
          | int i =>
            simp only at p
            cases e : L2.atI xs i with
            | none => rw [e] at p; exact p.elim
            | some z =>
              rw [e] at p
              obtain ⟨w, h1, h2⟩ := rr.atI e
              exact .inl (.inl (.inl ⟨α n, vs, i, w, ev, ry, .of hv, h1, p.here s h2⟩))
          | _ => exact p.elim
        | dct t kvs =>
          obtain ⟨ws, hd, rr⟩ := hc
          simp only at p
          by_cases hk : keyOk t y = true
          · rw [if_pos hk] at p
            have ez : (kvs.map (·.1)).zip (kvs.map (·.2)) = kvs := zip_fs kvs
            rcases dget_of hd (vls_paired rr) hk ry s.sub with ⟨e1, _⟩ | ⟨z, w, e1, hr, g⟩
            · rw [ez] at e1; rw [e1] at p; exact p.elim
            · rw [ez] at e1; rw [e1] at p
              exact .inl (.inr ⟨α n, w, ev, g, p.here s hr⟩)
          · rw [if_neg hk] at p
            exact p.elim
        | _ => exact p.elim
  | d x =>
    have rx : Rp W F x v := rx
    cases y with
    | p m => cases x <;> exact p.elim
    | d y =>
      cases x with
      | lst ds =>
        cases y with
        | int i =>
          obtain ⟨a, vs, rfl, q, rr⟩ := rx
          have p : Post W E (VlX W) α F S H (match L2.atI ds i with | some y => .ok (.d y) S | none => .bad) Q := p
          cases e : L2.atI ds i with
          | none => rw [e] at p; exact p.elim
          | some z =>
            rw [e] at p
            obtain ⟨w, h1, h2⟩ := rr.atI e
            exact .inl (.inl (.inl ⟨a, vs, i, w, rfl, ry, .of (s.sub _ _ q), h1, p.here s h2⟩))
        | _ => exact p.elim
      | tup ds =>
        cases y with
        | int i =>
          obtain ⟨a, vs, rfl, q, rr⟩ := rx
          have p : Post W E (VlX W) α F S H (match L2.atI ds i with | some y => .ok (.d y) S | none => .bad) Q := p
          cases e : L2.atI ds i with
          | none => rw [e] at p; exact p.elim
          | some z =>
            rw [e] at p
            obtain ⟨w, h1, h2⟩ := rr.atI e
            exact .inl (.inl (.inr (.inl ⟨a, vs, i, w, rfl, ry, by rw [← hK]; exact s.sub.sqT (.of q), h1, p.here s h2⟩)))
        | _ => exact p.elim
      | str z =>
        cases y with
        | int i =>
          have p : Post W E (VlX W) α F S H (if decide (z.length ≤ most) then (match L2.atI z i with | some c => .ok (.d (.str [c])) S | none => .bad) else .bad) Q := p
          by_cases hz : z.length ≤ most
          · rw [if_pos (by simpa using hz)] at p
            cases e : L2.atI z i with
            | none => rw [e] at p; exact p.elim
            | some c =>
              rw [e] at p
              exact .inl (.inl (.inr (.inr ⟨⟨z.toArray⟩, i, c, rx, ry, by rw [str_len, ← most_eq]; exact hz, e, p.here s rfl⟩)))
          · rw [if_neg (by simpa using hz)] at p; exact p.elim
        | _ => exact p.elim
      | dct t ks ds =>
        obtain ⟨a, ws, rfl, hd, rr⟩ := rx
        have p : Post W E (VlX W) α F S H (if keyOk t y then (match kvFind (ks.zip ds) y with | some z => .ok (.d z) S | none => .bad) else .bad) Q := p
        by_cases hk : keyOk t y = true
        · rw [if_pos hk] at p
          rcases dget_of (hd.mono (s.sub a)) (rps_paired rr) hk ry s.sub with ⟨e1, _⟩ | ⟨z, w, e1, hr, g⟩
          · rw [e1] at p; exact p.elim
          · rw [e1] at p
            exact .inl (.inr ⟨a, w, rfl, g, p.here s hr⟩)
        · rw [if_neg hk] at p
          exact p.elim
      | wd ks ds =>
        cases y with
        | str z =>
          obtain ⟨a, us, rfl, hd, rr⟩ := rx
          have p : Post W E (VlX W) α F S H (match wdFind ks ds z with | some y => .ok (.d y) S | none => .bad) Q := p
          cases e : wdFind ks ds z with
          | none => rw [e] at p; exact p.elim
          | some d =>
            rw [e] at p
            obtain ⟨w, h1, h2⟩ := wdFind_rel rr e
            have hd := hd.at z
            rw [hK, hW, h1] at hd
            exact .inr ⟨a, _, w, rfl, ry, hd, p.here s h2⟩
        | _ => exact p.elim
      | _ => exact p.elim
theorem de_ix (hK : W.K = X.K) (hW : W.w = X.w) (hu : X.A.units + 100 < cLine) (hp : PlainIx b) (ha : PE X a (tD W E fa)) (hb : PE X b (tD W E fb)) : PE X (.Subscript a b pos) (tD W E fun ρ S => (fa ρ S).bind fun x S => (fb ρ S).bind fun y S => index x y S) :=
  peI (pe_ix ((ix_seq.or (ix_dct hu)).or ix_kat) ha hb hp) fun σ H Q h => two h fun s rx ry p => ix_of hK hW s rx ry p

/-! ### slices -/
theorem do_none : PO X none (tDO W E fun _ S => .ok none S) := poI po_none fun σ H Q ⟨α, F, ρ, S, s, er, p⟩ => p.here s rfl
def someF (fa : Env → Sto → Res Vl) : Env → Sto → Res (Option Int) := fun ρ S => (fa ρ S).bind fun v S => match v with
    | .d (.int i) => .ok (some i) S
    | _ => .bad
theorem do_some (ha : PE X a (tD W E fa)) : PO X (some a) (tDO W E (someF fa)) := poI (po_some ha) fun σ H Q ⟨α, F, ρ, S, s, er, p⟩ => ⟨α, F, ρ, S, s, er, (Post.bind p).imp fun v H1 ⟨α1, F1, x, S1, x1, s1, r1, p1⟩ => by
  cases x with
  | p n => exact p1.elim
  | d x =>
    cases x with
    | int i => exact ⟨i, r1, p1.here s1 rfl⟩
    | _ => exact p1.elim⟩
theorem Rps.cut {ds : List D} {vs : List V} (r : Rps W F ds vs) (lo hi : Option Int) : Rps W F (Z.cut ds lo hi) (cutV vs lo hi) := by
  unfold Z.cut cutV
  rw [r.length]
  exact (r.drop _).take _
theorem cut_str (z : Tx) (lo hi : Option Int) : cutS ⟨z.toArray⟩ lo hi = ⟨(Z.cut z lo hi).toArray⟩ := by
  unfold cutS Z.cut
  rw [str_len]
theorem sl_of (hK : W.K = X.K) {lo hi : Option Int} (s : Sr W α F S H) (rx : VlR W α F S.length x v) (p : Post W E (VlX W) α F S H (slice x lo hi S) Q) : rSlS v lo hi H Q ∨ (rSlT X.K v lo hi H Q ∨ rSlL X.K v lo hi H Q) := by
  have lst : Post W E (VlX W) α F S H (sliceL x lo hi S) Q → rSlL X.K v lo hi H Q := fun p => by
    unfold sliceL at p
    cases ex : listOf x S with
    | none => rw [ex] at p; exact p.elim
    | some xs =>
      rw [ex] at p
      simp only at p
      cases px : pures xs with
      | none => rw [px] at p; exact p.elim
      | some ds =>
        rw [px] at p
        obtain ⟨a, vs, rfl, q1, r1⟩ := rx.list s ex
        have r1 := r1.pures px
        exact ⟨a, vs, rfl, .of q1, fun l hl => fin_lst p s (r1.cut lo hi) hl⟩
  cases x with
  | p n => exact .inr (.inr (lst p))
  | d x =>
    have rx' : Rp W F x v := rx
    cases x with
    | str z =>
      have p : Post W E (VlX W) α F S H (if decide (z.length ≤ most) then .ok (.d (.str (Z.cut z lo hi))) S else .bad) Q := p
      by_cases hz : z.length ≤ most
      · rw [if_pos (by simpa using hz)] at p
        refine .inl ⟨⟨z.toArray⟩, rx', by rw [str_len, ← most_eq]; exact hz, ?_⟩
        rw [cut_str]
        exact p.here s rfl
      · rw [if_neg (by simpa using hz)] at p; exact p.elim
    | tup ds =>
      have p : Post W E (VlX W) α F S H (if !(HT.sIx ds.length 0 lo == 0 && HT.sIx ds.length ds.length hi == ds.length) then .ok (.d (.tup (Z.cut ds lo hi))) S else .bad) Q := p
      by_cases hz : (!(HT.sIx ds.length 0 lo == 0 && HT.sIx ds.length ds.length hi == ds.length)) = true
      · rw [if_pos hz] at p
        obtain ⟨a, vs, rfl, q, rr⟩ := rx'
        refine .inr (.inl ⟨a, vs, rfl, by rw [← hK]; exact s.sub.sqT (.of q), ?_, fun l hl => fin_tup p s (rr.cut lo hi) hl⟩)
        rw [← rr.length]
        intro z
        simp [z.1, z.2] at hz
      · rw [if_neg hz] at p; exact p.elim
    | _ => exact .inr (.inr (lst p))
theorem de_sl (hK : W.K = X.K) {lo hi : Option Expr} {p2 : Pos} {fl fh : Env → Sto → Res (Option Int)} (ha : PE X a (tD W E fa)) (hl : PO X lo (tDO W E fl)) (hh : PO X hi (tDO W E fh)) :
    PE X (.Subscript a (.Slice lo hi none p2) pos) (tD W E fun ρ S => (fa ρ S).bind fun x S => (fl ρ S).bind fun l S => (fh ρ S).bind fun h S => slice x l h S) :=
  peI (pe_slice (sl_str.or (sl_tup.or sl_list)) ha hl hh) fun σ H Q ⟨α, F, ρ, S, s, er, p⟩ => ⟨α, F, ρ, S, s, er, (Post.bind p).imp fun v H1 ⟨α1, F1, x, S1, x1, s1, r1, p1⟩ =>
    ⟨α1, F1, ρ, S1, s1, er.ext x1, (Post.bind (Rel := RelE) p1).imp fun l H2 ⟨α2, F2, l', S2, x2, s2, r2, p2⟩ => ⟨α2, F2, ρ, S2, s2, (er.ext x1).ext x2, (Post.bind (Rel := RelE) p2).imp fun h H3 ⟨α3, F3, h', S3, x3, s3, r3, p3⟩ => by
      cases (show l' = l from r2)
      cases (show h' = h from r3)
      exact sl_of hK s3 (r1.ext (x2.trans x3)) p3⟩⟩⟩
end
end Z
end

section
set_option maxHeartbeats 1000000
/-! Z10: built-in functions and methods. -/
namespace Z
open PySem L2

section
variable {X : Cx} {W : Wd} {E : XK} {a b c e : Expr} {es : List Expr} {pos : Pos} {fa fb fc : Env → Sto → Res Vl}
variable {α : Nat → Addr} {F : Hp} {S : Sto} {H : Hp} {Q : VK} {x y : Vl} {v u : V}

theorem VlRs.one {x : Vl} {vs : List V} {N : Nat} (r : VlRs W α F N [x] vs) : ∃ v, vs = [v] ∧ VlR W α F N x v := by
  cases r with
  | cons h t => cases t; exact ⟨_, rfl, h⟩
theorem VlRs.two {x y : Vl} {vs : List V} {N : Nat} (r : VlRs W α F N [x, y] vs) : ∃ v u, vs = [v, u] ∧ VlR W α F N x v ∧ VlR W α F N y u := by
  cases r with
  | cons h t =>
    obtain ⟨u, rfl, r2⟩ := t.one
    exact ⟨_, _, rfl, h, r2⟩

/-! ### one by one -/
theorem callOr {f : Value} {r r' : List V → Hp → VK → Prop} (h : CallR X f r) (h' : CallR X f r') : CallR X f (fun xs H Q => r xs H Q ∨ r' xs H Q) := fun pins s σ H xs us Q I rx q => q.elim (h pins s σ H xs us Q I rx) (h' pins s σ H xs us Q I rx)
/-- the keys of a dict -/
theorem keys_flat' {F : Hp} : ∀ {ks : List D} {kk : List Key}, ks.map keyK = kk.map some → Rps W F ks (kk.map kV)
  | [], [], _ => rfl
  | [], _ :: _, h => by simp at h
  | _ :: _, [], h => by simp at h
  | k :: ks, c :: kk, h => by
    simp only [List.map_cons, List.cons.injEq] at h
    refine ⟨kV c, kk.map kV, rfl, ?_, keys_flat' h.2⟩
    cases k with
    | int i => cases h.1; rfl
    | str z => cases h.1; rfl
    | _ => exact absurd h.1 (by simp [keyK])
theorem keysOf_of (s : Sr W α F S H) (r : VlR W α F S.length x v) {ks : List D} (h : keysOf x S = some ks) : ∃ a kvs, v = .ref a ∧ H a = some (.dK kvs) ∧ kvs.length = ks.length ∧ Rps W F ks (kvs.map fun kv => kV kv.1) := by
  have fin : ∀ {a : Addr} {t : Bool} {ks : List D} {ws : List V}, (!t) = true → DctR H a t ks ws → ∃ kvs : List (Key × V), H a = some (.dK kvs) ∧ kvs.length = ks.length ∧ Rps W F ks (kvs.map fun kv => kV kv.1) := fun {a t ks ws} ht hd => by
    rcases hd with ⟨_, kk, h1, h2, h3⟩ | ⟨e1, _⟩
    · have hl := congrArg List.length h1
      simp only [List.length_map] at hl
      refine ⟨_, h3, by rw [List.length_zip, ← h2, Nat.min_self, hl], ?_⟩
      have e : (kk.zip ws).map (fun kv => kV kv.1) = kk.map kV := by
        have : (fun kv : Key × V => kV kv.1) = kV ∘ Prod.fst := rfl
        rw [this, ← List.map_map, List.map_fst_zip (Nat.le_of_eq h2)]
      rw [e]
      exact keys_flat' h1
    · rw [e1] at ht; cases ht
  cases x with
  | p n =>
    obtain ⟨ev, hl⟩ := (show v = .ref (α n) ∧ n < S.length from r)
    simp only [keysOf] at h
    cases hn : S[n]? with
    | none => rw [hn] at h; cases h
    | some c =>
      rw [hn] at h
      cases c with
      | dct t kvs =>
        simp only at h
        by_cases ht : (!t) = true
        · rw [if_pos ht] at h
          cases h
          obtain ⟨ws, hd, rr⟩ := s.cel n _ hn
          obtain ⟨q, h1, h2, h3⟩ := fin ht hd
          exact ⟨_, q, ev, h1, h2, h3⟩
        · rw [if_neg ht] at h; cases h
      | _ => cases h
  | d x =>
    cases x with
    | dct t ks' ds =>
      have h : (if !t && ks'.length == ds.length then some ks' else none) = some ks := h
      by_cases ht : (!t && ks'.length == ds.length) = true
      · rw [if_pos ht] at h
        cases h
        rw [Bool.and_eq_true] at ht
        obtain ⟨a, ws, rfl, hd, rr⟩ := r
        obtain ⟨q, h1, h2, h3⟩ := fin ht.1 (hd.mono (s.sub a))
        exact ⟨_, q, rfl, h1, h2, h3⟩
      · rw [if_neg ht] at h; cases h
    | _ => cases h
theorem len_of (hK : W.K = X.K) (s : Sr W α F S H) (r : VlR W α F S.length x v) (p : Post W E (VlX W) α F S H (bLen x S) Q) : (∃ n : Nat, LenV X.K v H n ∧ Q (.int n) H) ∨ ∃ a kvs, v = .ref a ∧ H a = some (.dK kvs) ∧ Q (.int kvs.length) H := by
  unfold bLen at p
  cases e : seqOf x S with
  | some xs =>
    rw [e] at p
    obtain ⟨a, vs, rfl, q, rr⟩ := r.seq s e
    rw [hK] at q
    refine .inl ⟨xs.length, ?_, p.here s rfl⟩
    rcases q with q | q
    · exact .inl ⟨vs, q, rr.length⟩
    · exact .inr ⟨vs, q, rr.length⟩
  | none =>
    rw [e] at p
    have dc : Post W E (VlX W) α F S H (match keysOf x S with
      | some ks => .ok (.d (.int ks.length)) S
      | none => .bad) Q → ∃ a kvs, v = .ref a ∧ H a = some (.dK kvs) ∧ Q (.int kvs.length) H := fun p => by
      cases ek : keysOf x S with
      | none => rw [ek] at p; exact p.elim
      | some ks =>
        rw [ek] at p
        obtain ⟨a, kvs, e1, h1, h2, h3⟩ := keysOf_of s r ek
        exact ⟨a, kvs, e1, h1, by rw [h2]; exact p.here s rfl⟩
    cases x with
    | p n => exact .inr (dc p)
    | d x =>
      cases x with
      | str z =>
        have p : Post W E (VlX W) α F S H (if decide (z.length ≤ most) then .ok (.d (.int z.length)) S else .bad) Q := p
        by_cases hz : z.length ≤ most
        · rw [if_pos (by simpa using hz)] at p
          cases (show v = V.str ⟨z.toArray⟩ from r)
          exact .inl ⟨z.length, ⟨by rw [str_len, ← most_eq]; exact hz, (str_len z).symm⟩, p.here s rfl⟩
        · rw [if_neg (by simpa using hz)] at p; exact p.elim
      | _ => exact .inr (dc p)
theorem abs_of (s : Sr W α F S H) (r : VlR W α F S.length x v) (p : Post W E (VlX W) α F S H (bAbs x S) Q) : ∃ i, v = .int i ∧ Q (.int (if i < 0 then -i else i)) H := by
  cases x with
  | p n => exact p.elim
  | d x =>
    cases x with
    | int i => exact ⟨i, r, p.here s rfl⟩
    | _ => exact p.elim
theorem int_of (s : Sr W α F S H) (r : VlR W α F S.length x v) (p : Post W E (VlX W) α F S H (bInt x S) Q) : (∃ i, v = .int i ∧ Q (.int i) H) ∨ ∃ k, v = .bl k ∧ Q (.int (if k then 1 else 0)) H := by
  cases x with
  | p n => exact p.elim
  | d x =>
    cases x with
    | int i => exact .inl ⟨i, r, p.here s rfl⟩
    | bl i => exact .inr ⟨i, r, p.here s rfl⟩
    | _ => exact p.elim
theorem list_of (hK : W.K = X.K) {cell : Bool} (s : Sr W α F S H) (r : VlR W α F S.length x v) (p : Post W E (VlX W) α F S H (bList cell x S) Q) : (∃ q ys, v = .ref q ∧ (SqL X.K H q ys ∨ SqT X.K H q ys) ∧ ∀ l, H l = none → Q (.ref l) (upd H l (.lst ys))) ∨ ∃ a kvs, v = .ref a ∧ H a = some (.dK kvs) ∧ ∀ l, H l = none → Q (.ref l) (upd H l (.lst (kvs.map fun kv => kV kv.1))) := by
  unfold bList at p
  cases e : seqOf x S with
  | none =>
    rw [e] at p
    cases ek : keysOf x S with
    | none => rw [ek] at p; exact p.elim
    | some ks =>
      rw [ek] at p
      obtain ⟨a, kvs, e1, h1, h2, h3⟩ := keysOf_of s r ek
      exact .inr ⟨a, kvs, e1, h1, (fin_new p s (VlRs.of_pure h3)).2⟩
  | some xs =>
    rw [e] at p
    obtain ⟨a, vs, rfl, q, rr⟩ := r.seq s e
    rw [hK] at q
    exact .inl ⟨a, vs, rfl, q, (fin_new p s rr).2⟩
theorem tuple_of (hK : W.K = X.K) (s : Sr W α F S H) (r : VlR W α F S.length x v) (p : Post W E (VlX W) α F S H (bTuple x S) Q) :
    ∃ q ys, v = .ref q ∧ ((SqL X.K H q ys ∧ ∀ l, H l = none → Q (.ref l) (upd H l (.tup ys))) ∨ (SqT X.K H q ys ∧ Q (.ref q) H)) := by
  have lst : ∀ {x : Vl}, VlR W α F S.length x v → Post W E (VlX W) α F S H (match listOf x S with
    | some xs => match pures xs with
      | some ds => .ok (.d (.tup ds)) S
      | none => .bad
    | none => .bad) Q → ∃ q ys, v = .ref q ∧ ((SqL X.K H q ys ∧ ∀ l, H l = none → Q (.ref l) (upd H l (.tup ys))) ∨ (SqT X.K H q ys ∧ Q (.ref q) H)) := fun {x} r p => by
    cases ex : listOf x S with
    | none => rw [ex] at p; exact p.elim
    | some xs =>
      rw [ex] at p
      simp only at p
      cases px : pures xs with
      | none => rw [px] at p; exact p.elim
      | some ds =>
        rw [px] at p
        obtain ⟨a, vs, rfl, q1, r1⟩ := r.list s ex
        exact ⟨a, vs, rfl, .inl ⟨.of q1, fun l hl => fin_tup p s (r1.pures px) hl⟩⟩
  cases x with
  | p n => exact lst r p
  | d x =>
    cases x with
    | tup ds =>
      obtain ⟨a, vs, rfl, q, rr⟩ := (show Rp W F (.tup ds) v from r)
      exact ⟨a, vs, rfl, .inr ⟨by rw [← hK]; exact s.sub.sqT (.of q), p.here s ⟨a, vs, rfl, q, rr⟩⟩⟩
    | _ => exact lst r p
theorem ofL {τ : Type} {f : List D → Option τ} {g : τ → D} {toV : τ → List V} (hf : ∀ {F : Hp} {ds : List D} {t : τ} {vs : List V}, f ds = some t → Rps W F ds vs → vs = toV t)
    (s : Sr W α F S H) (r : VlR W α F S.length x v) (p : Post W E (VlX W) α F S H (bOf f g x S) Q) : ∃ a t, v = .ref a ∧ H a = some (.lst (toV t)) ∧ Post W E (VlX W) α F S H (.ok (.d (g t)) S) Q := by
  unfold bOf at p
  cases ex : listOf x S with
  | none => rw [ex] at p; exact p.elim
  | some xs =>
    rw [ex] at p
    simp only at p
    cases px : pures xs with
    | none => rw [px] at p; exact p.elim
    | some ds =>
      rw [px] at p
      simp only at p
      cases hd : f ds with
      | none => rw [hd] at p; exact p.elim
      | some t =>
        rw [hd] at p
        obtain ⟨a, vs, rfl, q1, r1⟩ := r.list s ex
        have := hf hd (r1.pures px)
        subst this
        exact ⟨a, t, rfl, q1, p⟩
theorem intL_v : ∀ {ds : List D} {ns : List Int} {vs : List V}, intL ds = some ns → Rps W F ds vs → vs = ns.map V.int
  | [], ns, vs, h, r => by cases h; exact r
  | d :: ds, ns, vs, h, r => by
    obtain ⟨v, q, e, r1, r2⟩ := r
    subst e
    cases d <;> simp [intL] at h
    obtain ⟨m, hm, rfl⟩ := h
    rw [List.map_cons, ← intL_v hm r2, show v = _ from r1]
theorem boolL_v : ∀ {ds : List D} {ns : List Bool} {vs : List V}, boolL ds = some ns → Rps W F ds vs → vs = ns.map V.bl
  | [], ns, vs, h, r => by cases h; exact r
  | d :: ds, ns, vs, h, r => by
    obtain ⟨v, q, e, r1, r2⟩ := r
    subst e
    cases d <;> simp [boolL] at h
    obtain ⟨m, hm, rfl⟩ := h
    rw [List.map_cons, ← boolL_v hm r2, show v = _ from r1]
theorem textL_v : ∀ {ds : List D} {ns : List Tx} {vs : List V}, textL ds = some ns → Rps W F ds vs → vs = (ns.map mk).map V.str
  | [], ns, vs, h, r => by cases h; exact r
  | d :: ds, ns, vs, h, r => by
    obtain ⟨v, q, e, r1, r2⟩ := r
    subst e
    cases d <;> simp [textL] at h
    obtain ⟨m, hm, rfl⟩ := h
    rw [List.map_cons, List.map_cons, ← textL_v hm r2, show v = _ from r1]
    rfl

/-! ### by their names -/
theorem CallR.imp {f : Value} {r r' : List V → Hp → VK → Prop} (h : CallR X f r) (k : ∀ x H Q, r' x H Q → r x H Q) : CallR X f r' := fun pins s σ H xs us Q I rx q => h pins s σ H xs us Q I rx (k _ _ _ q)
/-- what a built-in of this name is -/
def IsFn (x : Str) (f : Value) : Prop := (∃ id, f = .builtin id ∧ bootBuiltins x = some (.builtin id)) ∨ ∃ T, f = .type T ∧ bootBuiltins x = some (.type T)
theorem cBf_cases {x : Str} {b : Bf} (h : cBf x = some b) : (x = "len" ∧ b = .len) ∨ (x = "abs" ∧ b = .abs) ∨ (x = "int" ∧ b = .int) ∨ (x = "list" ∧ b = .list) ∨ (x = "tuple" ∧ b = .tuple) ∨ (x = "sum" ∧ b = .sum) ∨ (x = "min" ∧ b = .min) ∨ (x = "max" ∧ b = .max) ∨ (x = "any" ∧ b = .any) ∨ (x = "all" ∧ b = .all) ∨ (x = "sorted" ∧ b = .sorted) := by
  unfold cBf at h
  repeat' split at h
  all_goals first
    | (cases h; done)
    | (rename_i hx; have hx := beq_iff_eq.mp hx; cases h; subst hx; simp)
/-- sorted(l), data that are alike -/
def rSortedD (K : PySem.W.Frag) : List V → Hp → VK → Prop := fun vs H Q => ∃ (a : Addr) (bs : List (V × PyData)), vs = [V.ref a] ∧ SqL K H a (bs.map (·.1)) ∧ (∀ p ∈ bs, Dp K H p.1 p.2 ∧ SeqAt.shaped p.2 = true) ∧ PySem.W.AllAlike (bs.map (·.2)) ∧ PySem.W.Sortable (bs.map (·.2)) ∧
  ∀ p, H p = none → Q (.ref p) (upd H p (.lst ((bs.mergeSort fun a b => !PySem.W.dataLt b.2 a.2).map (·.1))))
theorem vals_each {bs : List (V × PyData)} : ∀ {us : List Value}, Vals (bs.map (·.1)) us → PySem.W.EachIs (fun v b => RelV b.1 v) us bs := by
  induction bs with
  | nil => intro us r; cases r; exact .nil
  | cons b bs ih =>
    intro us r
    cases r with
    | cons h t => exact .cons h (ih t)
theorem each_vals {bs : List (V × PyData)} : ∀ {us : List Value}, PySem.W.EachIs (fun v b => RelV b.1 v) us bs → Vals (bs.map (·.1)) us := by
  induction bs with
  | nil => intro us r; cases r; exact .nil
  | cons b bs ih =>
    intro us r
    cases r with
    | cons h t => exact .cons h (ih t)
theorem cr_sortedD (hu : X.A.units + 100 < cLine) : CallR X (.builtin "sorted") (rSortedD X.K) := by
  intro pins s σ H vs us Q I r h
  obtain ⟨a, bs, rfl, hs, hd, hal, hk, q⟩ := h
  obtain ⟨its, rv, hl, hz⟩ := I.list hs
  rw [Vals.ref1 r]
  have e := vals_each rv
  have hzb : bs.length ≤ sizeLine := by rw [List.length_map] at hz; exact hz
  have er : PySem.W.EachIs (fun v b => ∃ as, Reads s.heap v b.2 as) its bs := by
    have key : ∀ {us : List Value} {cs : List (V × PyData)}, PySem.W.EachIs (fun v b => RelV b.1 v) us cs → (∀ p ∈ cs, Dp X.K H p.1 p.2) → PySem.W.EachIs (fun v b => ∃ as, Reads s.heap v b.2 as) us cs := by
      intro us cs e
      induction e with
      | nil => intro _; exact .nil
      | cons h t ih => exact fun hd => .cons (Dp.reads I _ _ _ (hd _ (List.mem_cons_self ..)) h) (ih fun p hp => hd p (List.mem_cons_of_mem _ hp))
    exact key e fun p hp => (hd p hp).1
  refine PySem.W.sorted_data (enc := fun b : V × PyData => b.2) hl.isList e er hal hk hzb (fun b hb => ?_) fun out h1 h2 => ?_
  · have := SeqAt.depth_of_shaped (hd b hb).2
    omega
  · obtain ⟨ep, he'⟩ := PyProof.Rows.sortedAll_at s.heap its out.toArray
    have hv := each_vals h2
    have hlen : ((bs.mergeSort (PySem.W.dataLe false fun b : V × PyData => b.2)).map (·.1)).length ≤ sizeLine := by rw [List.length_map, List.length_mergeSort]; exact hzb
    refine ⟨.ref _, upd H (s.heap.objs.size + 1) (.lst ((bs.mergeSort (PySem.W.dataLe false fun b : V × PyData => b.2)).map (·.1))), I.laid (t' := s.toks) (fun _ _ => PyProof.Rows.sortedAll_old) (Nat.le_succ _) ⟨hlen, out, ep, hv, he'⟩, rfl, ?_⟩
    have := q (s.heap.objs.size + 1) (I.hok.fresh (Nat.le_succ _))
    rw [PySem.W.dataLe_eq]
    exact this
theorem zip_rps {F : Hp} : ∀ {ds : List D} {vs : List V}, Rps W F ds vs → ∃ ps : List (D × V), ds = ps.map (·.1) ∧ vs = ps.map (·.2) ∧ ∀ p ∈ ps, Rp W F p.1 p.2
  | [], vs, r => by cases (show vs = [] from r); exact ⟨[], rfl, rfl, fun _ h => nomatch h⟩
  | d :: ds, vs, r => by
    obtain ⟨v, q, e, r1, r2⟩ := r
    obtain ⟨ps, e1, e2, h⟩ := zip_rps r2
    refine ⟨(d, v) :: ps, by rw [List.map_cons, ← e1], by rw [e, List.map_cons, ← e2], fun p hp => ?_⟩
    rcases List.mem_cons.mp hp with rfl | hp
    · exact r1
    · exact h p hp
theorem zip_vls {α : Nat → Addr} {F : Hp} {N : Nat} : ∀ {ps : List (D × V)}, (∀ p ∈ ps, Rp W F p.1 p.2) → VlRs W α F N ((ps.map (·.1)).map .d) (ps.map (·.2))
  | [], _ => .nil
  | p :: ps, h => .cons (h p (List.mem_cons_self ..)) (zip_vls fun q hq => h q (List.mem_cons_of_mem _ hq))
theorem sorted_of (hK : W.K = X.K) {cell : Bool} (s : Sr W α F S H) (r : VlR W α F S.length x v) (p : Post W E (VlX W) α F S H (bSorted cell x S) Q) : rSortedD X.K [v] H Q := by
  unfold bSorted at p
  cases ex : listOf x S with
  | none => rw [ex] at p; exact p.elim
  | some xs =>
    rw [ex] at p
    simp only at p
    cases px : pures xs with
    | none => rw [px] at p; exact p.elim
    | some ds =>
      rw [px] at p
      simp only at p
      by_cases hz : sortOk ds = true
      · rw [if_pos hz] at p
        unfold sortOk at hz
        rw [Bool.and_eq_true, List.all_eq_true] at hz
        obtain ⟨hz1, hz2⟩ := hz
        have hz1 : ∀ a ∈ ds, isData 64 a = true ∧ ∀ b ∈ ds, alikeD a b = true := fun a ha => by
          have := hz1 a ha
          rw [Bool.and_eq_true, List.all_eq_true] at this
          exact this
        obtain ⟨a, vs, rfl, q1, r1⟩ := r.list s ex
        obtain ⟨ps, rfl, rfl, hp⟩ := zip_rps (r1.pures px)
        have mem : ∀ {q : D × V}, q ∈ ps → q.1 ∈ ps.map (·.1) := fun h => List.mem_map.mpr ⟨_, h, rfl⟩
        refine ⟨a, ps.map fun q => (q.2, toPy q.1), rfl, ?_, fun b hb => ?_, fun d hd d' hd' => ?_, ?_, fun l hl => ?_⟩
        · have : (ps.map fun q : D × V => (q.2, toPy q.1)).map (·.1) = ps.map (·.2) := by rw [List.map_map]; rfl
          rw [this]
          exact .of q1
        · obtain ⟨q, hq, rfl⟩ := List.mem_map.mp hb
          have := (hz1 q.1 (mem hq)).1
          exact ⟨dp_of hK s.sub 64 _ _ this (hp q hq), shaped_of this⟩
        · obtain ⟨b, hb, rfl⟩ := List.mem_map.mp hd
          obtain ⟨b', hb', rfl⟩ := List.mem_map.mp hd'
          obtain ⟨q, hq, rfl⟩ := List.mem_map.mp hb
          obtain ⟨q', hq', rfl⟩ := List.mem_map.mp hb'
          exact (hz1 q.1 (mem hq)).2 q'.1 (mem hq')
        · rw [Bool.or_eq_true, List.all_eq_true, List.all_eq_true] at hz2
          rcases hz2 with h | h
          · refine .inl fun d hd => ?_
            obtain ⟨b, hb, rfl⟩ := List.mem_map.mp hd
            obtain ⟨q, hq, rfl⟩ := List.mem_map.mp hb
            have := h q.1 (mem hq)
            obtain ⟨d, w⟩ := q
            cases d with
            | tup ds =>
              cases ds with
              | nil => cases this
              | cons y ys => exact ⟨toPy y, toPys ys, rfl⟩
            | _ => cases this
          · refine .inr fun d hd => ?_
            obtain ⟨b, hb, rfl⟩ := List.mem_map.mp hd
            obtain ⟨q, hq, rfl⟩ := List.mem_map.mp hb
            have h1 := h q.1 (mem hq)
            have h2 := (hz1 q.1 (mem hq)).1
            obtain ⟨d, w⟩ := q
            cases d <;> first | (cases h1; done) | (cases h2; done) | (refine ⟨(fun z => nomatch z), (fun _ z => nomatch z)⟩)
        · have e1 : (ps.map (·.1)).mergeSort leDt = (ps.mergeSort fun a b => leDt a.1 b.1).map (·.1) := (List.map_mergeSort (f := fun q : D × V => q.1) (r := fun a b => leDt a.1 b.1) (s := leDt) (l := ps) fun _ _ _ _ => rfl).symm
          have e2 : ((ps.map fun q : D × V => (q.2, toPy q.1)).mergeSort fun a b => !PySem.W.dataLt b.2 a.2) = (ps.mergeSort fun a b => leDt a.1 b.1).map fun q => (q.2, toPy q.1) := (List.map_mergeSort (f := fun q : D × V => (q.2, toPy q.1)) (r := fun a b => leDt a.1 b.1) (s := fun a b => !PySem.W.dataLt b.2 a.2) (l := ps) fun _ _ _ _ => rfl).symm
          rw [e1] at p
          have := (fin_new p s (zip_vls fun q hq => hp q (List.mem_mergeSort.mp hq))).2 l hl
          rw [e2, List.map_map]
          exact this
      · rw [if_neg hz] at p
        exact p.elim
theorem bf_rule (hK : W.K = X.K) (hu : X.A.units + 100 < cLine) (hc : X.calm = true) {x : Str} {b : Bf} (h : cBf x = some b) (cell : Bool) : ∃ (f : Value) (r : List V → Hp → VK → Prop), IsFn x f ∧ CallR X f r ∧
    ∀ {α F S H as vs} {Q : VK}, Sr W α F S H → VlRs W α F S.length as vs → Post W E (VlX W) α F S H (builtin b cell as S) Q → r vs H Q := by
  have un : ∀ {f : Value} {r : V → Hp → VK → Prop}, IsFn x f → CallR X f (fun vs H Q => ∃ v, vs = [v] ∧ r v H Q) → (∀ {α F S H w v} {Q : VK}, Sr W α F S H → VlR W α F S.length w v → Post W E (VlX W) α F S H (builtin b cell [w] S) Q → r v H Q) →
      (∀ S as, (∀ w, as ≠ [w]) → builtin b cell as S = .bad) → ∃ (f : Value) (r : List V → Hp → VK → Prop), IsFn x f ∧ CallR X f r ∧
      ∀ {α F S H as vs} {Q : VK}, Sr W α F S H → VlRs W α F S.length as vs → Post W E (VlX W) α F S H (builtin b cell as S) Q → r vs H Q := fun {f r} h1 h2 h3 h4 => by
    refine ⟨f, _, h1, h2, fun {α F S H as vs Q} s rs p => ?_⟩
    by_cases hw : ∃ w, as = [w]
    · obtain ⟨w, rfl⟩ := hw
      obtain ⟨v, rfl, r1⟩ := rs.one
      exact ⟨v, rfl, h3 s r1 p⟩
    · rw [h4 S as fun w e => hw ⟨w, e⟩] at p
      exact p.elim
  have nope : ∀ {b : Bf} {S : Sto} {as : List Vl}, (∀ w, as ≠ [w]) → (b ≠ .min ∧ b ≠ .max) → builtin b cell as S = .bad := fun {b S as} h hb => by
    match as, h with
    | [], _ => rfl
    | [w], h => exact absurd rfl (h w)
    | [v, w], _ => cases b <;> first | rfl | (exact absurd rfl hb.1) | (exact absurd rfl hb.2)
    | _ :: _ :: _ :: _, _ => rfl
  have two2 : ∀ {f : Value} {g : Int → Int → Int}, IsFn x f → CallR X f (fun vs H Q => ∃ i j, vs = [.int i, .int j] ∧ Q (.int (g i j)) H) → (∀ S v w, builtin b cell [v, w] S = opI (fun _ _ => true) g v w S) →
      (∀ S as, (∀ v w, as ≠ [v, w]) → builtin b cell as S = .bad) → ∃ (f : Value) (r : List V → Hp → VK → Prop), IsFn x f ∧ CallR X f r ∧
      ∀ {α F S H as vs} {Q : VK}, Sr W α F S H → VlRs W α F S.length as vs → Post W E (VlX W) α F S H (builtin b cell as S) Q → r vs H Q := fun {f g} h1 h2 h3 h4 => by
    refine ⟨f, _, h1, h2, fun {α F S H as vs Q} s rs p => ?_⟩
    by_cases hw : ∃ v w, as = [v, w]
    · obtain ⟨v, w, rfl⟩ := hw
      obtain ⟨v', w', rfl, r1, r2⟩ := rs.two
      rw [h3] at p
      obtain ⟨i, j, rfl, rfl, _, q⟩ := bin_int (C := fun _ _ => True) (fun _ _ _ => trivial) s r1 r2 p
      exact ⟨i, j, rfl, q⟩
    · rw [h4 S as fun v w e => hw ⟨v, w, e⟩] at p
      exact p.elim
  have nope2 : ∀ {b : Bf} {S : Sto} {as : List Vl}, (∀ v w, as ≠ [v, w]) → (b = .min ∨ b = .max) → builtin b cell as S = .bad := fun {b S as} h hb => by
    match as, h with
    | [], _ => rfl
    | [w], _ => rcases hb with rfl | rfl <;> rfl
    | [v, w], h => exact absurd rfl (h v w)
    | _ :: _ :: _ :: _, _ => rfl
  rcases cBf_cases h with ⟨rfl, rfl⟩ | ⟨rfl, rfl⟩ | ⟨rfl, rfl⟩ | ⟨rfl, rfl⟩ | ⟨rfl, rfl⟩ | ⟨rfl, rfl⟩ | ⟨rfl, rfl⟩ | ⟨rfl, rfl⟩ | ⟨rfl, rfl⟩ | ⟨rfl, rfl⟩ | ⟨rfl, rfl⟩
  · exact un (f := .builtin "len") (r := fun v H Q => (∃ n : Nat, LenV X.K v H n ∧ Q (.int n) H) ∨ ∃ a kvs, v = .ref a ∧ H a = some (.dK kvs) ∧ Q (.int kvs.length) H) (.inl ⟨_, rfl, by decide +kernel⟩) (CallR.imp (callOr call_len call_lenD) fun xs H Q ⟨v, e, q⟩ => q.imp (fun ⟨n, l, q⟩ => ⟨v, n, e, l, q⟩) fun ⟨a, kvs, e1, h1, q⟩ => ⟨a, kvs, by rw [e, e1], h1, q⟩) (fun s r p => len_of hK s r p) fun S as h => nope h ⟨by decide, by decide⟩
  · exact un (f := .builtin "abs") (r := fun v H Q => ∃ i, v = .int i ∧ Q (.int (if i < 0 then -i else i)) H) (.inl ⟨_, rfl, by decide +kernel⟩) (CallR.imp call_abs fun xs H Q ⟨v, e, i, l, q⟩ => ⟨i, by rw [e, l], q⟩) (fun s r p => abs_of s r p) fun S as h => nope h ⟨by decide, by decide⟩
  · exact un (f := .type "int") (r := fun v H Q => (∃ i, v = .int i ∧ Q (.int i) H) ∨ ∃ k, v = .bl k ∧ Q (.int (if k then 1 else 0)) H) (.inr ⟨_, rfl, by decide +kernel⟩) (CallR.imp call_int1 fun xs H Q ⟨v, e, h⟩ => by
      rcases h with ⟨i, l, q⟩ | ⟨i, l, q⟩
      · exact .inl ⟨i, by rw [e, l], q⟩
      · exact .inr ⟨i, by rw [e, l], q⟩) (fun s r p => int_of s r p) fun S as h => nope h ⟨by decide, by decide⟩
  · exact un (f := .type "list") (r := fun v H Q => (∃ q ys, v = .ref q ∧ (SqL X.K H q ys ∨ SqT X.K H q ys) ∧ ∀ l, H l = none → Q (.ref l) (upd H l (.lst ys))) ∨ ∃ a kvs, v = .ref a ∧ H a = some (.dK kvs) ∧ ∀ l, H l = none → Q (.ref l) (upd H l (.lst (kvs.map fun kv => kV kv.1)))) (.inr ⟨_, rfl, by decide +kernel⟩) (CallR.imp (callOr call_list_of (call_listD hc)) fun xs H Q ⟨v, e, q⟩ => q.imp (fun ⟨a, ys, l, q⟩ => ⟨a, ys, by rw [e, l], q⟩) fun ⟨a, kvs, e1, h1, q⟩ => ⟨a, kvs, by rw [e, e1], .inl h1, q⟩) (fun s r p => list_of hK s r p) fun S as h => nope h ⟨by decide, by decide⟩
  · exact un (f := .type "tuple") (r := fun v H Q => ∃ q ys, v = .ref q ∧ ((SqL X.K H q ys ∧ ∀ l, H l = none → Q (.ref l) (upd H l (.tup ys))) ∨ (SqT X.K H q ys ∧ Q (.ref q) H))) (.inr ⟨_, rfl, by decide +kernel⟩) (CallR.imp call_tuple_of fun xs H Q ⟨v, e, a, ys, l, q⟩ => ⟨a, ys, by rw [e, l], q⟩) (fun s r p => tuple_of hK s r p) fun S as h => nope h ⟨by decide, by decide⟩
  · exact un (f := .builtin "sum") (r := fun v H Q => ∃ (a : Addr) (ns : List Int), v = .ref a ∧ SqL X.K H a (ns.map V.int) ∧ Q (.int ns.sum) H) (.inl ⟨_, rfl, by decide +kernel⟩) (CallR.imp (cr_sum hc) fun xs H Q ⟨v, e, a, ns, l, q1, q2⟩ => ⟨a, ns, by rw [e, l], q1, q2⟩) (fun s r p => by
      obtain ⟨a, t, rfl, q, p⟩ := ofL (toV := fun ns : List Int => ns.map V.int) (fun h r => intL_v h r) s r p
      exact ⟨a, t, rfl, .of q, p.here s rfl⟩) fun S as h => nope h ⟨by decide, by decide⟩
  · exact two2 (f := .builtin "min") (.inl ⟨_, rfl, by decide +kernel⟩) (call_min2 hc) (fun _ _ _ => rfl) fun S as h => nope2 h (.inl rfl)
  · exact two2 (f := .builtin "max") (.inl ⟨_, rfl, by decide +kernel⟩) (call_max2 hc) (fun _ _ _ => rfl) fun S as h => nope2 h (.inr rfl)
  · exact un (f := .builtin "any") (r := fun v H Q => ∃ (a : Addr) (ns : List Bool), v = .ref a ∧ SqL X.K H a (ns.map V.bl) ∧ Q (.bl (ns.any id)) H) (.inl ⟨_, rfl, by decide +kernel⟩) (CallR.imp (cr_any hc) fun xs H Q ⟨v, e, a, ns, l, q1, q2⟩ => ⟨a, ns, by rw [e, l], q1, q2⟩) (fun s r p => by
      obtain ⟨a, t, rfl, q, p⟩ := ofL (toV := fun ns : List Bool => ns.map V.bl) (fun h r => boolL_v h r) s r p
      exact ⟨a, t, rfl, .of q, p.here s rfl⟩) fun S as h => nope h ⟨by decide, by decide⟩
  · exact un (f := .builtin "all") (r := fun v H Q => ∃ (a : Addr) (ns : List Bool), v = .ref a ∧ SqL X.K H a (ns.map V.bl) ∧ Q (.bl (ns.all id)) H) (.inl ⟨_, rfl, by decide +kernel⟩) (CallR.imp (cr_all hc) fun xs H Q ⟨v, e, a, ns, l, q1, q2⟩ => ⟨a, ns, by rw [e, l], q1, q2⟩) (fun s r p => by
      obtain ⟨a, t, rfl, q, p⟩ := ofL (toV := fun ns : List Bool => ns.map V.bl) (fun h r => boolL_v h r) s r p
      exact ⟨a, t, rfl, .of q, p.here s rfl⟩) fun S as h => nope h ⟨by decide, by decide⟩
  · exact un (f := .builtin "sorted") (r := fun v H Q => rSortedD X.K [v] H Q) (.inl ⟨_, rfl, by decide +kernel⟩) (CallR.imp (cr_sortedD hu) fun xs H Q ⟨v, e, q⟩ => by rw [e]; exact q) (fun s r p => sorted_of hK s r p) fun S as h => nope h ⟨by decide, by decide⟩

theorem de_bf (hK : W.K = X.K) (hu : X.A.units + 100 < cLine) (hc : X.calm = true) {x : Str} {b : Bf} {cell : Bool} {px : Pos} {fs : Env → Sto → Res (List Vl)} (hb : cBf x = some b) (hg : Gl X x) (hm : X.mg x = none) (hn : x ≠ "__name__") (hd : (x == ("__debug__" : Str)) = false)
    (h1 : notStar e = true) (h2 : es.all notStar = true) (ha : PA X (e :: es) (tDA W E fs)) : PE X (.Call (.Name x px) (e :: es) [] pos) (tD W E fun ρ S => (fs ρ S).bind fun vs S => builtin b cell vs S) := by
  obtain ⟨f, r, hf, hr, k⟩ := bf_rule (E := E) hK hu hc hb cell
  have go : ∀ σ H Q, tD W E (fun ρ S => (fs ρ S).bind fun vs S => builtin b cell vs S) σ H Q → tCB r (tDA W E fs) σ H Q := fun σ H Q ⟨α, F, ρ, S, s, er, p⟩ =>
    ⟨α, F, ρ, S, s, er, (Post.bind (Rel := VlXs W) p).imp fun vs H1 ⟨α1, F1, xs, S1, x1, s1, r1, p1⟩ => k s1 r1 p1⟩
  rcases hf with ⟨id, rfl, hv⟩ | ⟨T, rfl, hv⟩
  · exact peI (pe_callB hr hg hm hv ha hn hd (star_cons h1) (star_none h2)) go
  · exact peI (pe_callTy hr hg hm hv ha hn hd (star_cons h1) (star_none h2)) go

/-! ### isinstance -/
theorem ty_of (hK : W.K = X.K) (s : Sr W α F S H) (r : VlR W α F S.length x v) {ks : List Nat} (h : typeOf x S = some ks) : ∃ T, TyX X.K H v (.type T) ∧ ∀ t n, cTy t = some n → ∃ U, bootBuiltins t = some (.type U) ∧ kitB T U = some (ks.contains n) := by
  have names : ∀ {T : String} {ks : List Nat}, kitB T "int" = some (ks.contains 0) → kitB T "str" = some (ks.contains 1) → kitB T "list" = some (ks.contains 2) → kitB T "tuple" = some (ks.contains 3) → kitB T "bool" = some (ks.contains 4) →
      ∀ t n, cTy t = some n → ∃ U, bootBuiltins t = some (.type U) ∧ kitB T U = some (ks.contains n) := fun {T ks} h0 h1 h2 h3 h4 t n h => by
    unfold cTy at h
    repeat' split at h
    · rename_i hx; have hx := beq_iff_eq.mp hx; cases h; subst hx; exact ⟨"int", by decide +kernel, h0⟩
    · rename_i hx; have hx := beq_iff_eq.mp hx; cases h; subst hx; exact ⟨"str", by decide +kernel, h1⟩
    · rename_i hx; have hx := beq_iff_eq.mp hx; cases h; subst hx; exact ⟨"list", by decide +kernel, h2⟩
    · rename_i hx; have hx := beq_iff_eq.mp hx; cases h; subst hx; exact ⟨"tuple", by decide +kernel, h3⟩
    · rename_i hx; have hx := beq_iff_eq.mp hx; cases h; subst hx; exact ⟨"bool", by decide +kernel, h4⟩
    · cases h
  cases x with
  | p n =>
    obtain ⟨e, hl⟩ := (show v = .ref (α n) ∧ n < S.length from r)
    simp only [typeOf] at h
    cases hn : S[n]? with
    | none => rw [hn] at h; cases h
    | some c =>
      rw [hn] at h
      cases c <;> simp at h
      subst h e
      obtain ⟨vs, hv, rr⟩ := s.cel n _ hn
      exact ⟨"list", .base (.lst hv), names (by decide +kernel) (by decide +kernel) (by decide +kernel) (by decide +kernel) (by decide +kernel)⟩
  | d x =>
    have r : Rp W F x v := r
    cases x <;> simp only [typeOf, Option.some.injEq, reduceCtorEq] at h <;> subst h
    · cases (show v = V.non from r)
      exact ⟨"NoneType", .base .non, names (by decide +kernel) (by decide +kernel) (by decide +kernel) (by decide +kernel) (by decide +kernel)⟩
    · cases (show v = V.bl _ from r)
      exact ⟨"bool", .base (.bl _), names (by decide +kernel) (by decide +kernel) (by decide +kernel) (by decide +kernel) (by decide +kernel)⟩
    · cases (show v = V.int _ from r)
      exact ⟨"int", .base (.int _), names (by decide +kernel) (by decide +kernel) (by decide +kernel) (by decide +kernel) (by decide +kernel)⟩
    · cases (show v = V.str _ from r)
      exact ⟨"str", .base (.str _), names (by decide +kernel) (by decide +kernel) (by decide +kernel) (by decide +kernel) (by decide +kernel)⟩
    · obtain ⟨a, vs, rfl, q, rr⟩ := r
      refine ⟨"tuple", ?_, names (by decide +kernel) (by decide +kernel) (by decide +kernel) (by decide +kernel) (by decide +kernel)⟩
      exact .base (.tup (s.sub _ _ q))
    · obtain ⟨a, vs, rfl, q, rr⟩ := r
      exact ⟨"list", .base (.lst (s.sub _ _ q)), names (by decide +kernel) (by decide +kernel) (by decide +kernel) (by decide +kernel) (by decide +kernel)⟩
theorem isi_of (p : Post W E (VlX W) α F S H (bIsi ts x S) Q) : ∃ ks, typeOf x S = some ks ∧ Post W E (VlX W) α F S H (.ok (.d (.bl (ts.any fun t => ks.contains t))) S) Q := by
  unfold bIsi isTypes at p
  cases e : typeOf x S with
  | none => rw [e] at p; exact p.elim
  | some ks => rw [e] at p; exact ⟨ks, rfl, p⟩
theorem cTy_ty {t : Str} {n : Nat} (h : cTy t = some n) : ∃ U, bootBuiltins t = some (.type U) := by
  unfold cTy at h
  repeat' split at h
  · rename_i hx; have hx := beq_iff_eq.mp hx; subst hx; exact ⟨"int", by decide +kernel⟩
  · rename_i hx; have hx := beq_iff_eq.mp hx; subst hx; exact ⟨"str", by decide +kernel⟩
  · rename_i hx; have hx := beq_iff_eq.mp hx; subst hx; exact ⟨"list", by decide +kernel⟩
  · rename_i hx; have hx := beq_iff_eq.mp hx; subst hx; exact ⟨"tuple", by decide +kernel⟩
  · rename_i hx; have hx := beq_iff_eq.mp hx; subst hx; exact ⟨"bool", by decide +kernel⟩
  · cases h
theorem boot_isinstance' : bootBuiltins "isinstance" = some (.builtin "isinstance") := by decide +kernel
theorem de_isi (hK : W.K = X.K) {t : Str} {n : Nat} {p1 p2 : Pos} (ht : cTy t = some n) (hg : Gl X "isinstance") (hm : X.mg "isinstance" = none) (hgt : Gl X t) (hmt : X.mg t = none) (hnt : t ≠ "__name__") (hdt : (t == ("__debug__" : Str)) = false)
    (hs : notStar e = true) (he : PE X e (tD W E fa)) : PE X (.Call (.Name "isinstance" p1) [e, .Name t p2] [] pos) (tD W E fun ρ S => (consF fa nilF ρ S).bind fun vs S => builtin (.isinst [n]) false vs S) := by
  obtain ⟨U, hU⟩ := cTy_ty ht
  have pt : PE X (.Name t p2) (tC (.ty U)) := pe_bltn hgt hmt hU rfl hnt hdt
  refine peI (pe_callB call_isi hg hm boot_isinstance' (pa_cons he (pa_cons pt pa_nil) (star_cons hs)) (by decide) (by decide) (star_cons hs) rfl) fun σ H Q ⟨α, F, ρ, S, s, er, p⟩ => ?_
  have p' : Post W E (VlX W) α F S H ((fa ρ S).bind fun v S => builtin (.isinst [n]) false [v] S) Q := by
    have e : (consF fa nilF ρ S).bind (fun vs S => builtin (.isinst [n]) false vs S) = (fa ρ S).bind fun v S => builtin (.isinst [n]) false [v] S := by
      unfold consF
      cases fa ρ S <;> rfl
    rw [← e]; exact p
  refine ⟨α, F, ρ, S, s, er, (Post.bind p').imp fun v H1 ⟨α1, F1, x, S1, x1, s1, r1, p1⟩ => ?_⟩
  obtain ⟨ks, hk, p2⟩ := isi_of p1
  obtain ⟨T, ty, kt⟩ := ty_of hK s1 r1 hk
  obtain ⟨U', hU', kb⟩ := kt t n ht
  rw [hU] at hU'
  cases hU'
  exact ⟨v, .ty U, .type T, .type U, _, rfl, .ty U, ty, kit_ty kb, by simpa using p2.here s1 rfl⟩
end
end Z
end

section
set_option maxHeartbeats 1000000
/-! Z11: isinstance with several types, methods, what is walked, comprehensions. -/
namespace Z
open PySem L2

section
variable {X : Cx} {W : Wd} {E : XK} {a b c e : Expr} {es : List Expr} {pos : Pos} {fa fb fc : Env → Sto → Res Vl}
variable {α : Nat → Addr} {F : Hp} {S : Sto} {H : Hp} {Q : VK} {x y : Vl} {v u : V}

/-- names of types in a display -/
inductive TyNames (X : Cx) : List Expr → List Nat → Prop
  | nil : TyNames X [] []
  | cons {t : Str} {p : Pos} {n : Nat} {ts : List Expr} {ns : List Nat} : cTy t = some n → Gl X t → X.mg t = none → t ≠ "__name__" → (t == ("__debug__" : Str)) = false → TyNames X ts ns → TyNames X (.Name t p :: ts) (n :: ns)
theorem tys_of {ts : List Expr} {ns : List Nat} (h : TyNames X ts ns) : ∃ us : List String, PA X ts (fun σ H Q => Q (us.map V.ty) H) ∧ us.length = ns.length ∧
    ∀ {T : String} {ks : List Nat}, (∀ t n, cTy t = some n → ∃ U, bootBuiltins t = some (.type U) ∧ kitB T U = some (ks.contains n)) → PySem.W.kitAny X.K (.type T) (us.map Value.type) = some (ns.any fun n => ks.contains n) := by
  induction h with
  | nil => exact ⟨[], pa_nil, rfl, fun _ => rfl⟩
  | @cons t p n ts ns ht hg hm hn hd _ ih =>
    obtain ⟨us, h1, h2, h3⟩ := ih
    obtain ⟨U, hU⟩ := cTy_ty ht
    refine ⟨U :: us, ?_, by simp [h2], fun {T ks} k => ?_⟩
    · have pt : PE X (.Name t p) (tC (.ty U)) := pe_bltn hg hm hU rfl hn hd
      exact pa_cons pt h1 rfl
    · obtain ⟨U', hU', kb⟩ := k t n ht
      rw [hU] at hU'
      cases hU'
      rw [List.map_cons, List.any_cons]
      exact kitAny_cons (kit_ty kb) (fun hb => by rw [hb, Bool.false_or]; exact h3 k) fun hb => by rw [hb, Bool.true_or]
theorem tyNames_star {ts : List Expr} {ns : List Nat} (h : TyNames X ts ns) : ts.all notStar = true := by
  induction h with
  | nil => rfl
  | cons _ _ _ _ _ _ ih => rw [List.all_cons, ih]; rfl
theorem clsVs : ∀ us : List String, Paired ClsV (us.map V.ty) (us.map Value.type)
  | [] => .nil
  | u :: us => .cons (.ty u) (clsVs us)
theorem de_isiT (hK : W.K = X.K) {ts : List Expr} {ns : List Nat} {p1 p2 : Pos} {k : Nat} (hts : TyNames X ts ns) (hl : ns.length ≤ 100) (hg : Gl X "isinstance") (hm : X.mg "isinstance" = none)
    (hs : notStar e = true) (he : PE X e (tD W E fa)) : PE X (.Call (.Name "isinstance" p1) [e, .Tuple ts k p2] [] pos) (tD W E fun ρ S => (consF fa nilF ρ S).bind fun vs S => builtin (.isinst ns) false vs S) := by
  obtain ⟨us, h1, h2, h3⟩ := tys_of hts
  refine peI (pe_callB call_isiT hg hm boot_isinstance' (pa_cons he (pa_cons (pe_tup h1) pa_nil) (star_cons hs)) (by decide) (by decide) (star_cons hs) rfl) fun σ H Q ⟨α, F, ρ, S, s, er, p⟩ => ?_
  have p' : Post W E (VlX W) α F S H ((fa ρ S).bind fun v S => builtin (.isinst ns) false [v] S) Q := by
    have e : (consF fa nilF ρ S).bind (fun vs S => builtin (.isinst ns) false vs S) = (fa ρ S).bind fun v S => builtin (.isinst ns) false [v] S := by
      unfold consF
      cases fa ρ S <;> rfl
    rw [← e]; exact p
  refine ⟨α, F, ρ, S, s, er, (Post.bind p').imp fun v H1 ⟨α1, F1, x, S1, x1, s1, r1, p1⟩ => ?_⟩
  refine ⟨by rw [List.length_map, h2, sizeLine_eq]; omega, fun l hl => ?_⟩
  obtain ⟨ks, hk, p2⟩ := isi_of p1
  obtain ⟨s2, x2⟩ := s1.newF (o := .tup (us.map V.ty)) hl
  obtain ⟨T, ty, kt⟩ := ty_of hK s2 (r1.ext x2) hk
  exact ⟨v, l, us.map V.ty, .type T, us.map Value.type, _, rfl, upd_same, clsVs us, ty, h3 kt, p2 _ α1 _ _ x2 s2 rfl⟩

/-! ### methods -/
theorem append_of (s : Sr W α F S H) (rx : VlR W α F S.length x v) (ry : VlR W α F S.length y u) (p : Post W E (VlX W) α F S H (mAppend x y S) Q) : rAppend v [u] H Q := by
  cases x with
  | d x => exact p.elim
  | p n =>
    obtain ⟨ev, hl⟩ := (show v = .ref (α n) ∧ n < S.length from rx)
    simp only [mAppend] at p
    cases hn : S[n]? with
    | none => rw [hn] at p; exact p.elim
    | some c =>
      rw [hn] at p
      cases c with
      | lst xs =>
        simp only at p
        by_cases hz : xs.length < most
        · rw [if_pos (by simpa using hz)] at p
          obtain ⟨vs, hv, rr⟩ := s.cel n _ hn
          refine ⟨α n, vs, u, ev, rfl, hv, by rw [← rr.length, ← most_eq]; exact hz, ?_⟩
          obtain ⟨s', x'⟩ := s.setC (n := n) (o := .lst (vs ++ [u])) (c := .lst (xs ++ [y])) ⟨_, hn, fun z => nomatch z⟩ ⟨_, upd_same, rr.append (.cons ry .nil)⟩
          exact p _ α F _ x' s' rfl
        · rw [if_neg (by simpa using hz)] at p; exact p.elim
      | _ => exact p.elim
theorem extend_of (s : Sr W α F S H) (rx : VlR W α F S.length x v) (ry : VlR W α F S.length y u) (p : Post W E (VlX W) α F S H (mExtend x y S) Q) : rExtend v [u] H Q := by
  cases x with
  | d x => exact p.elim
  | p n =>
    obtain ⟨ev, hl⟩ := (show v = .ref (α n) ∧ n < S.length from rx)
    simp only [mExtend] at p
    cases hn : S[n]? with
    | none => rw [hn] at p; exact p.elim
    | some c =>
      rw [hn] at p
      cases c with
      | lst xs =>
        simp only at p
        cases ey : listOf y S with
        | none => rw [ey] at p; exact p.elim
        | some ys =>
          rw [ey] at p
          simp only at p
          by_cases hz : xs.length + ys.length ≤ most
          · rw [if_pos (by simpa using hz)] at p
            obtain ⟨vs, hv, rr⟩ := s.cel n _ hn
            obtain ⟨b, us, rfl, q2, r2⟩ := ry.list s ey
            refine ⟨α n, b, vs, us, ev, rfl, hv, q2, by rw [← rr.length, ← r2.length, ← most_eq]; exact hz, ?_⟩
            obtain ⟨s', x'⟩ := s.setC (n := n) (o := .lst (vs ++ us)) (c := .lst (xs ++ ys)) ⟨_, hn, fun z => nomatch z⟩ ⟨_, upd_same, rr.append r2⟩
            exact p _ α F _ x' s' rfl
          · rw [if_neg (by simpa using hz)] at p; exact p.elim
      | _ => exact p.elim
theorem pop_of (s : Sr W α F S H) (rx : VlR W α F S.length x v) (p : Post W E (VlX W) α F S H (mPop x S) Q) : rPop v [] H Q := by
  cases x with
  | d x => exact p.elim
  | p n =>
    obtain ⟨ev, hl⟩ := (show v = .ref (α n) ∧ n < S.length from rx)
    simp only [mPop] at p
    cases hn : S[n]? with
    | none => rw [hn] at p; exact p.elim
    | some c =>
      rw [hn] at p
      cases c with
      | lst xs =>
        simp only at p
        cases e : xs[xs.length - 1]? with
        | none => rw [e] at p; exact p.elim
        | some z =>
          rw [e] at p
          obtain ⟨vs, hv, rr⟩ := s.cel n _ hn
          obtain ⟨w, hw, rw'⟩ := rr.get e
          refine ⟨α n, vs, w, ev, rfl, hv, by rw [← rr.length]; exact hw, ?_⟩
          obtain ⟨s', x'⟩ := s.setC (n := n) (o := .lst vs.dropLast) (c := .lst xs.dropLast) ⟨_, hn, fun z => nomatch z⟩ ⟨_, upd_same, rr.dropLast⟩
          exact p _ α F _ x' s' (rw'.ext x')
      | _ => exact p.elim
abbrev rTx (g : Str → Str → V) : V → List V → Hp → VK → Prop := fun x xs H Q => ∃ a b, x = .str a ∧ xs = [.str b] ∧ Q (g a b) H
theorem tx_of {f : Str → Str → D} {g : Str → Str → V} (h : ∀ F a b, Rp W F (f a b) (g a b)) (s : Sr W α F S H) (rx : VlR W α F S.length x v) (ry : VlR W α F S.length y u) (p : Post W E (VlX W) α F S H (tx1 f x y S) Q) : rTx g v [u] H Q := by
  cases x with
  | p n => exact p.elim
  | d x =>
    cases x with
    | str a =>
      cases y with
      | p n => exact p.elim
      | d y =>
        cases y with
        | str b =>
          cases (show v = V.str ⟨a.toArray⟩ from rx)
          cases (show u = V.str ⟨b.toArray⟩ from ry)
          exact ⟨_, _, rfl, rfl, p.here s (h F _ _)⟩
        | _ => exact p.elim
    | _ => exact p.elim
theorem un_mk (x : Str) : (⟨(un x).toArray⟩ : Str) = x := by unfold un; simp
theorem mk_lens (ts : List Tx) : ((ts.map mk).map fun x => x.length).sum = (ts.map List.length).sum := by
  rw [List.map_map]
  exact congrArg List.sum (List.map_congr_left fun t _ => str_len t)
theorem join_of (hK : W.K = X.K) (s : Sr W α F S H) (rx : VlR W α F S.length x v) (ry : VlR W α F S.length y u) (p : Post W E (VlX W) α F S H (mJoin x y S) Q) :
    ∃ a p, ∃ ys : List Str, v = .str a ∧ [u] = [.ref p] ∧ (SqL X.K H p (ys.map V.str) ∨ SqT X.K H p (ys.map V.str)) ∧ (ys.map (·.length)).sum + ys.length * a.length ≤ 16777216 ∧ Q (.str (Txt.join a ys)) H := by
  cases x with
  | p n => exact p.elim
  | d x =>
    cases x with
    | str sep =>
      cases (show v = V.str ⟨sep.toArray⟩ from rx)
      simp only [mJoin] at p
      cases ex : listOf y S with
      | none => rw [ex] at p; exact p.elim
      | some xs =>
        rw [ex] at p
        simp only at p
        cases px : pures xs with
        | none => rw [px] at p; exact p.elim
        | some ds =>
          rw [px] at p
          simp only at p
          cases hd : textL ds with
          | none => rw [hd] at p; exact p.elim
          | some ts =>
            rw [hd] at p
            simp only at p
            by_cases hz : (ts.map List.length).sum + ts.length * sep.length ≤ most
            · rw [if_pos (by simpa using hz)] at p
              obtain ⟨a, vs, rfl, q1, r1⟩ := ry.list s ex
              have := textL_v hd (r1.pures px)
              subst this
              refine ⟨⟨sep.toArray⟩, a, ts.map mk, rfl, rfl, .inl (.of q1), ?_, ?_⟩
              · rw [mk_lens, List.length_map, str_len]
                exact hz
              · have q := p.here s (w := .str (Txt.join (mk sep) (ts.map mk))) (by show V.str _ = V.str _; rw [un_mk])
                exact q
            · rw [if_neg (by simpa using hz)] at p; exact p.elim
    | _ => exact p.elim
theorem ty_list (hK : W.K = X.K) (s : Sr W α F S H) (rx : VlR W α F S.length x v) (h : (listOf x S).isSome = true) : tyV X.K "list" v H := by
  cases e : listOf x S with
  | none => rw [e] at h; cases h
  | some xs =>
    obtain ⟨a, vs, rfl, q1, r1⟩ := rx.list s e
    exact .inl ⟨rfl, vs, .of q1⟩
theorem ty_str (rx : VlR W α F S.length x v) (h : isStr x = true) : tyV X.K "str" v H := by
  cases x with
  | p n => cases h
  | d x =>
    cases x with
    | str a => cases (show v = V.str ⟨a.toArray⟩ from rx); rfl
    | _ => cases h
/-- what a method of this name is, of one argument -/
structure MtFact (X : Cx) (W : Wd) (E : XK) (m : Str) (b : Bm) (n : Nat) : Prop where
  ex : ∃ (T id : String) (r : V → List V → Hp → VK → Prop), PlainAttrs T ∧ Slot T m id ∧ PySem.typeOf (.builtin id) = pure (.type "method_descriptor") ∧ MtR X id r ∧
    (∀ {α F S H x v}, Sr W α F S H → VlR W α F S.length x v → bmTy b x S = true → tyV X.K T v H) ∧
    ∀ {α F S H x v as us} {Q : VK}, Sr W α F S H → VlR W α F S.length x v → VlRs W α F S.length as us → as.length = n → Post W E (VlX W) α F S H (method b x as S) Q → r v us H Q
/-- index is a list's or a text's -/
def isIdx : Bm → Bool
  | .index => true
  | _ => false
theorem cBm1_cases {x : Str} {b : Bm} (h : cBm1 x = some b) : (x = "append" ∧ b = .append) ∨ (x = "extend" ∧ b = .extend) ∨ (x = "join" ∧ b = .join) ∨ (x = "count" ∧ b = .count) ∨ (x = "rfind" ∧ b = .rfind) ∨ (x = "startswith" ∧ b = .startswith) ∨ (x = "index" ∧ b = .index) := by
  unfold cBm1 at h
  repeat' split at h
  all_goals first
    | (cases h; done)
    | (rename_i hx; have hx := beq_iff_eq.mp hx; cases h; subst hx; simp)
theorem toPys_get : ∀ (ds : List D) (j : Nat), (toPys ds)[j]? = (ds[j]?).map toPy
  | [], j => by simp [toPys]
  | d :: ds, 0 => by simp [toPys]
  | d :: ds, j + 1 => by simp [toPys, toPys_get ds j]
theorem datas_mem {n : Nat} : ∀ {ds : List D}, isDatas n ds = true → ∀ d ∈ ds, isData n d = true
  | [], _, _, h => nomatch h
  | d :: ds, h, e, he => by
    have h : (isData n d && isDatas n ds) = true := by rw [isDatas] at h; exact h
    rw [Bool.and_eq_true] at h
    rcases List.mem_cons.mp he with rfl | he
    · exact h.1
    · exact datas_mem h.2 e he
theorem index_of' (hK : W.K = X.K) (s : Sr W α F S H) (rx : VlR W α F S.length x v) (ry : VlR W α F S.length y u) (p : Post W E (VlX W) α F S H (mIndex x y S) Q) : rIndexD X.K v [u] H Q := by
  unfold mIndex at p
  cases y with
  | p n => split at p <;> first | exact p.elim | (rename_i h; cases h)
  | d y =>
    cases ex : listOf x S with
    | none => rw [ex] at p; exact p.elim
    | some xs =>
      rw [ex] at p
      simp only at p
      cases px : pures xs with
      | none => rw [px] at p; exact p.elim
      | some ds =>
        rw [px] at p
        simp only at p
        by_cases hz : (isData 64 (.lst ds) && isData 64 y) = true
        · rw [if_pos hz] at p
          rw [Bool.and_eq_true] at hz
          cases hj : ds.findIdx? (fun e => eqv e y) with
          | none => rw [hj] at p; exact p.elim
          | some j =>
            rw [hj] at p
            obtain ⟨a, vs, rfl, q1, r1⟩ := rx.list s ex
            have hD : isDatas 63 ds = true := by have := hz.1; rw [isData] at this; exact this
            obtain ⟨hl, hp, hn⟩ := List.findIdx?_eq_some_iff_getElem.mp hj
            refine ⟨a, u, toPy y, toPys ds, j, toPy ds[j], rfl, rfl, .lst (.of q1) (dps_of hK s.sub 63 _ _ hD (r1.pures px)), dp_of hK s.sub 64 _ _ hz.2 ry, shaped_of hz.1, shaped_of hz.2, ?_, ?_, fun m z' hm hz' => ?_, p.here s rfl⟩
            · rw [toPys_get, List.getElem?_eq_getElem hl]; rfl
            · rw [eqv_py 63 64 _ _ (datas_mem hD _ (List.getElem_mem hl)) hz.2]; exact hp
            · have hml : m < ds.length := by omega
              rw [toPys_get, List.getElem?_eq_getElem hml] at hz'
              have hz' : toPy ds[m] = z' := Option.some.inj hz'
              rw [← hz', eqv_py 63 64 _ _ (datas_mem hD _ (List.getElem_mem hml)) hz.2]
              have := hn m hm
              simpa using this
        · rw [if_neg hz] at p
          exact p.elim
theorem bm_rule1 (hK : W.K = X.K) (hu : X.A.units + 100 < cLine) {m : Str} {b : Bm} (h : cBm1 m = some b) (hi : isIdx b = false) : MtFact X W E m b 1 := by
  have one : ∀ {as : List Vl} {us : List V} {N : Nat} {α : Nat → Addr} {F : Hp}, VlRs W α F N as us → as.length = 1 → ∃ y u, as = [y] ∧ us = [u] ∧ VlR W α F N y u := fun {as us N α F} r h => by
    match as, h with
    | [y], _ =>
      obtain ⟨u, rfl, q⟩ := r.one
      exact ⟨y, u, rfl, rfl, q⟩
  rcases cBm1_cases h with ⟨rfl, rfl⟩ | ⟨rfl, rfl⟩ | ⟨rfl, rfl⟩ | ⟨rfl, rfl⟩ | ⟨rfl, rfl⟩ | ⟨rfl, rfl⟩ | ⟨rfl, rfl⟩
  · exact ⟨⟨_, _, _, PySem.F.plainAttrs_list, PySem.F.slot_list_append, PySem.F.type_list_append, mt_append, fun s r h => ty_list hK s r h, fun s rx ra hl p => by
      obtain ⟨y, u, rfl, rfl, ry⟩ := one ra hl
      exact append_of s rx ry p⟩⟩
  · exact ⟨⟨_, _, _, PySem.F.plainAttrs_list, PySem.F.slot_list_extend, PySem.F.type_list_extend, mt_extend, fun s r h => ty_list hK s r h, fun s rx ra hl p => by
      obtain ⟨y, u, rfl, rfl, ry⟩ := one ra hl
      exact extend_of s rx ry p⟩⟩
  · exact ⟨⟨_, _, _, PySem.F.plainAttrs_str, PySem.F.slot_str_join, PySem.F.type_str_join, mt_join, fun _ r h => ty_str r h, fun s rx ra hl p => by
      obtain ⟨y, u, rfl, rfl, ry⟩ := one ra hl
      exact join_of hK s rx ry p⟩⟩
  · exact ⟨⟨_, _, _, PySem.F.plainAttrs_str, PySem.F.slot_str_count, PySem.F.type_str_count, mt_count, fun _ r h => ty_str r h, fun s rx ra hl p => by
      obtain ⟨y, u, rfl, rfl, ry⟩ := one ra hl
      exact tx_of (f := fun a b => .int (Txt.count a b)) (g := fun a b => .int (Txt.count a b)) (fun _ _ _ => rfl) s rx ry p⟩⟩
  · exact ⟨⟨_, _, _, PySem.F.plainAttrs_str, PySem.F.slot_str_rfind, PySem.F.type_str_rfind, mt_rfind, fun _ r h => ty_str r h, fun s rx ra hl p => by
      obtain ⟨y, u, rfl, rfl, ry⟩ := one ra hl
      exact tx_of (f := fun a b => .int (Txt.rfind a b)) (g := fun a b => .int (Txt.rfind a b)) (fun _ _ _ => rfl) s rx ry p⟩⟩
  · exact ⟨⟨_, _, _, PySem.F.plainAttrs_str, PySem.F.slot_str_startswith, PySem.F.type_str_startswith, mt_startswith, fun _ r h => ty_str r h, fun s rx ra hl p => by
      obtain ⟨y, u, rfl, rfl, ry⟩ := one ra hl
      exact tx_of (f := fun a b => .bl (Txt.startswith a b)) (g := fun a b => .bl (Txt.startswith a b)) (fun _ _ _ => rfl) s rx ry p⟩⟩
  · cases hi
theorem bm_indexL (hK : W.K = X.K) (hu : X.A.units + 100 < cLine) : MtFact X W E "index" .indexL 1 := ⟨⟨_, _, _, PySem.F.plainAttrs_list, PySem.F.slot_list_index, PySem.F.type_list_index, mt_indexD (by omega), fun s r h => ty_list hK s r h, fun {α F S H x v as us Q} s rx ra hl p => by
      match as, hl with
      | [y], _ =>
        obtain ⟨u, rfl, ry⟩ := ra.one
        exact index_of' hK s rx ry p⟩⟩
theorem sindex_of (s : Sr W α F S H) (rx : VlR W α F S.length x v) (ry : VlR W α F S.length y u) (p : Post W E (VlX W) α F S H (sIndex x y S) Q) : ∃ a b i rest, v = .str a ∧ [u] = [.str b] ∧ Builtin.Str.occurrences a b 0 a.length 1 = i :: rest ∧ Q (.int (i : Nat)) H := by
  unfold sIndex at p
  cases x with
  | p n => exact p.elim
  | d x =>
    cases x with
    | str a =>
      cases y with
      | p n => exact p.elim
      | d y =>
        cases y with
        | str b =>
          simp only at p
          cases ho : Builtin.Str.occurrences (mk a) (mk b) 0 (mk a).length 1 with
          | nil => rw [ho] at p; exact p.elim
          | cons i r =>
            rw [ho] at p
            cases (show v = V.str _ from rx)
            cases (show u = V.str _ from ry)
            exact ⟨mk a, mk b, i, r, rfl, rfl, ho, p.here s rfl⟩
        | _ => exact p.elim
    | _ => exact p.elim
theorem bm_indexS (hK : W.K = X.K) : MtFact X W E "index" .indexS 1 := ⟨⟨_, _, _, PySem.F.plainAttrs_str, PySem.F.slot_str_index, PySem.F.type_str_index, mt_sindex, fun _ r h => ty_str r h, fun {α F S H x v as us Q} s rx ra hl p => by
      match as, hl with
      | [y], _ =>
        obtain ⟨u, rfl, ry⟩ := ra.one
        exact sindex_of s rx ry p⟩⟩
theorem bm_rule0 (hK : W.K = X.K) {m : Str} {b : Bm} (h : cBm0 m = some b) : MtFact X W E m b 0 := by
  unfold cBm0 at h
  split at h
  · rename_i hx
    have hx := beq_iff_eq.mp hx
    cases h
    subst hx
    exact ⟨⟨_, _, _, PySem.F.plainAttrs_list, PySem.F.slot_list_pop, PySem.F.type_list_pop, mt_pop, fun s r h => ty_list hK s r h, fun {α F S H x v as us Q} s rx ra hl p => by
      match as, hl with
      | [], _ =>
        cases ra
        exact pop_of s rx p⟩⟩
  · cases h
def bmF (b : Bm) (fa : Env → Sto → Res Vl) (fs : Env → Sto → Res (List Vl)) : Env → Sto → Res Vl := fun ρ S => (fa ρ S).bind fun x S => if bmTy b x S then (fs ρ S).bind fun vs S => method b x vs S else .bad
theorem attr_base {o : Expr} {f : Str} {env : PySem.Env} {w : Sem Value} (h : noSuper o = true) : attributeBase o f env w = w := by
  cases o with
  | Call g args kws p =>
    cases g <;> first | rfl | skip
    cases args with
    | cons _ _ => rfl
    | nil =>
      cases kws with
      | cons _ _ => rfl
      | nil =>
        rename_i id pp
        have h : (!(id == ("super" : Str))) = true := h
        have h2 : (id != ("super" : Str)) = true := h
        unfold attributeBase
        simp [h2]
  | _ => rfl

theorem de_bm0 (hK : W.K = X.K) {o : Expr} {m : Str} {b : Bm} {apos : Pos} (h : MtFact X W E m b 0) (hb : noSuper o = true) (hl : (apos.endLine == pos.line) = true) (ho : PE X o (tD W E fa)) :
    PE X (.Call (.Attribute o m apos) [] [] pos) (tD W E (bmF b fa nilF)) := by
  obtain ⟨T, id, r, h1, h2, h3, h4, h5, h6⟩ := h.ex
  refine peI (pe_bm0 h1 h2 h3 h4 ho (attr_base hb) hl) fun σ H Q ⟨α, F, ρ, S, s, er, p⟩ => ⟨α, F, ρ, S, s, er, (Post.bind p).imp fun v H1 ⟨α1, F1, x, S1, x1, s1, r1, p1⟩ => ?_⟩
  dsimp only at p1
  by_cases ht : bmTy b x S1 = true
  · rw [if_pos ht] at p1
    exact ⟨h5 s1 r1 ht, h6 s1 r1 .nil rfl p1⟩
  · rw [if_neg ht] at p1; exact p1.elim
theorem few_of : ∀ {es : List Expr} {env : PySem.Env} {pos : Pos}, es.all notStar = true → (backTo pos (starEach es env)).all (fun x => !x.1) = true
  | [], _, _, _ => rfl
  | e :: es, env, pos, h => by
    rw [List.all_cons, Bool.and_eq_true] at h
    rw [star_cons h.1]
    show (!false && (backTo pos (starEach es env)).all (fun x => !x.1)) = true
    rw [few_of h.2]; rfl
theorem de_bm1 (hK : W.K = X.K) {o : Expr} {m : Str} {b : Bm} {apos : Pos} {fs : Env → Sto → Res (List Vl)} (h : MtFact X W E m b 1) (hb : noSuper o = true) (hl : (apos.endLine == pos.line) = true) (hs : notStar e = true) (ho : PE X o (tD W E fa)) (he : PE X e (tD W E fb)) :
    PE X (.Call (.Attribute o m apos) [e] [] pos) (tD W E (bmF b fa (consF fb nilF))) := by
  obtain ⟨T, id, r, h1, h2, h3, h4, h5, h6⟩ := h.ex
  have hfew : ((backTo pos (starEach [e] X.env)).all (fun x => !x.1) && (backToKw pos (keywordEach [] X.env)).all (fun x => x.1.isSome)
      && decide (([e] : List Expr).length + ([] : List Keyword).length + (if ([] : List Keyword).isEmpty then 0 else 1) < 30)) = true := by
    rw [few_of (by simp [hs])]; rfl
  refine peI (pe_bm h1 h2 h3 h4 ho (da_cons hs he da_nil) (attr_base hb) hfew hl (star_cons hs) rfl) fun σ H Q ⟨α, F, ρ, S, s, er, p⟩ => ⟨α, F, ρ, S, s, er, (Post.bind p).imp fun v H1 ⟨α1, F1, x, S1, x1, s1, r1, p1⟩ => ?_⟩
  dsimp only at p1
  by_cases ht : bmTy b x S1 = true
  · rw [if_pos ht] at p1
    refine ⟨h5 s1 r1 ht, α1, F1, ρ, S1, s1, er.ext x1, ?_⟩
    have p2 : Post W E (VlX W) α1 F1 S1 H1 ((fb ρ S1).bind fun y S => method b x [y] S) Q := by
      have e : (consF fb nilF ρ S1).bind (fun vs S => method b x vs S) = (fb ρ S1).bind fun y S => method b x [y] S := by
        unfold consF
        cases fb ρ S1 <;> rfl
      rw [← e]; exact p1
    show Post W E (VlXs W) α1 F1 S1 H1 ((fb ρ S1).bind fun v S => (nilF ρ S).bind fun vs S => .ok (v :: vs) S) _
    have go := Post.bind (Rel := VlX W) p2
    cases hf : fb ρ S1 with
    | bad => rw [hf] at go; exact go
    | exc ee S' => rw [hf] at go; exact go
    | ok y S2 =>
      rw [hf] at go
      show Post W E (VlXs W) α1 F1 S1 H1 (.ok [y] S2) _
      intro us α2 F2 H2 x2 s2 rs
      obtain ⟨u, rfl, ru⟩ := rs.one
      obtain ⟨α3, F3, y', S3, x3, s3, r3, p3⟩ := go u α2 F2 H2 x2 s2 ru
      exact h6 s2 (r1.ext x2) (.cons ru .nil) rfl (by
        rw [hf] at p2
        exact Post.rebase x2 p2)
  · rw [if_neg ht] at p1; exact p1.elim
theorem peOr {t t' : TE} (h : PE X e t) (h' : PE X e t') : PE X e (fun σ H Q => t σ H Q ∨ t' σ H Q) := ⟨fun pins s σ H Q I q => q.elim (h.run pins s σ H Q I) (h'.run pins s σ H Q I)⟩
theorem de_index (hK : W.K = X.K) (hu : X.A.units + 100 < cLine) {o : Expr} {apos : Pos} (hb : noSuper o = true) (hl : (apos.endLine == pos.line) = true) (hs : notStar e = true) (ho : PE X o (tD W E fa)) (he : PE X e (tD W E fb)) :
    PE X (.Call (.Attribute o "index" apos) [e] [] pos) (tD W E (bmF .index fa (consF fb nilF))) := by
  refine peI (peOr (de_bm1 (fs := nilF) hK (bm_indexL hK hu) hb hl hs ho he) (de_bm1 (fs := nilF) hK (bm_indexS hK) hb hl hs ho he)) fun σ H Q ⟨α, F, ρ, S, s, er, p⟩ => ?_
  have p : Post W E (VlX W) α F S H ((fa ρ S).bind fun x S => if bmTy .index x S then (consF fb nilF ρ S).bind (fun vs S => method .index x vs S) else .bad) Q := p
  cases hf : fa ρ S with
  | bad => rw [hf] at p; exact p.elim
  | exc ee S' => rw [hf] at p; exact .inl ⟨α, F, ρ, S, s, er, by unfold bmF; rw [hf]; exact p⟩
  | ok x S1 =>
    rw [hf] at p
    have p : Post W E (VlX W) α F S H (if bmTy .index x S1 then (consF fb nilF ρ S1).bind (fun vs S => method .index x vs S) else .bad) Q := p
    by_cases hx : isStr x = true
    · refine .inr ⟨α, F, ρ, S, s, er, ?_⟩
      unfold bmF
      rw [hf]
      have e1 : bmTy .index x S1 = true := by show ((listOf x S1).isSome || isStr x) = true; rw [hx, Bool.or_true]
      have e2 : bmTy .indexS x S1 = true := hx
      rw [if_pos e1] at p
      show Post W E (VlX W) α F S H (if bmTy .indexS x S1 then (consF fb nilF ρ S1).bind (fun vs S => method .indexS x vs S) else .bad) Q
      rw [if_pos e2]
      have e3 : (fun (vs : List Vl) (S : Sto) => method .indexS x vs S) = fun vs S => method .index x vs S := by
        funext vs S
        match vs with
        | [] => rfl
        | [v] => show sIndex x v S = if isStr x then sIndex x v S else mIndex x v S; rw [if_pos hx]
        | [_, _] => rfl
        | _ :: _ :: _ :: _ => rfl
      rw [e3]; exact p
    · refine .inl ⟨α, F, ρ, S, s, er, ?_⟩
      unfold bmF
      rw [hf]
      have e1 : bmTy .index x S1 = bmTy .indexL x S1 := by show ((listOf x S1).isSome || isStr x) = (listOf x S1).isSome; rw [Bool.eq_false_iff.mpr hx, Bool.or_false]
      rw [e1] at p
      show Post W E (VlX W) α F S H (if bmTy .indexL x S1 then (consF fb nilF ρ S1).bind (fun vs S => method .indexL x vs S) else .bad) Q
      have e3 : (fun (vs : List Vl) (S : Sto) => method .indexL x vs S) = fun vs S => method .index x vs S := by
        funext vs S
        match vs with
        | [] => rfl
        | [v] => show mIndex x v S = if isStr x then sIndex x v S else mIndex x v S; rw [if_neg hx]
        | [_, _] => rfl
        | _ :: _ :: _ :: _ => rfl
      rw [e3]; exact p
/-! ### d.get -/
theorem isDct_of (s : Sr W α F S H) (r : VlR W α F S.length x v) (h : isDct x S = true) : ∃ a, v = .ref a ∧ IsD H a := by
  have fin : ∀ {a : Addr} {t : Bool} {ks : List D} {ws : List V}, DctR H a t ks ws → IsD H a := fun hd => by
    rcases hd with ⟨_, kk, _, _, h3⟩ | ⟨_, kk, _, _, h3⟩
    · exact .inl ⟨_, .inl h3⟩
    · exact .inr ⟨_, .inl h3⟩
  cases x with
  | p n =>
    obtain ⟨ev, hl⟩ := (show v = .ref (α n) ∧ n < S.length from r)
    simp only [isDct] at h
    cases hn : S[n]? with
    | none => rw [hn] at h; cases h
    | some c =>
      rw [hn] at h
      cases c with
      | dct t kvs => obtain ⟨ws, hd, rr⟩ := s.cel n _ hn; exact ⟨_, ev, fin hd⟩
      | _ => cases h
  | d x =>
    cases x with
    | dct t ks ds => obtain ⟨a, ws, rfl, hd, rr⟩ := r; exact ⟨a, rfl, fin (hd.mono (s.sub a))⟩
    | _ => cases h
theorem get_of (s : Sr W α F S H) (rx : VlR W α F S.length x v) {k : D} (ry : Rp W F k u) {o : Option Vl} (h : getOf x k S = some o) : ∃ a w, v = .ref a ∧ DGet H a u w ∧ ((o = none ∧ w = none) ∨ ∃ z q, o = some z ∧ w = some q ∧ VlR W α F S.length z q) := by
  cases x with
  | p n =>
    obtain ⟨ev, hl⟩ := (show v = .ref (α n) ∧ n < S.length from rx)
    simp only [getOf] at h
    cases hn : S[n]? with
    | none => rw [hn] at h; cases h
    | some c =>
      rw [hn] at h
      cases c with
      | dct t kvs =>
        simp only at h
        by_cases hk : keyOk t k = true
        · rw [if_pos hk] at h
          cases h
          obtain ⟨ws, hd, rr⟩ := s.cel n _ hn
          have ez : (kvs.map (·.1)).zip (kvs.map (·.2)) = kvs := zip_fs kvs
          rcases dget_of hd (vls_paired rr) hk ry s.sub with ⟨e1, g⟩ | ⟨z, w, e1, hr, g⟩
          · rw [ez] at e1; exact ⟨_, none, ev, g, .inl ⟨e1, rfl⟩⟩
          · rw [ez] at e1; exact ⟨_, some w, ev, g, .inr ⟨z, w, e1, rfl, hr⟩⟩
        · rw [if_neg hk] at h; cases h
      | _ => cases h
  | d x =>
    cases x with
    | dct t ks ds =>
      have h : (if keyOk t k && ks.length == ds.length then some ((kvFind (ks.zip ds) k).map .d) else none) = some o := h
      by_cases hk : (keyOk t k && ks.length == ds.length) = true
      · rw [if_pos hk] at h
        rw [Bool.and_eq_true] at hk
        cases h
        obtain ⟨a, ws, rfl, hd, rr⟩ := rx
        rcases dget_of (hd.mono (s.sub a)) (rps_paired rr) hk.1 ry s.sub with ⟨e1, g⟩ | ⟨z, w, e1, hr, g⟩
        · exact ⟨a, none, rfl, g, .inl ⟨by rw [e1]; rfl, rfl⟩⟩
        · exact ⟨a, some w, rfl, g, .inr ⟨.d z, w, by rw [e1]; rfl, rfl, hr⟩⟩
      · rw [if_neg hk] at h; cases h
    | _ => cases h
theorem mget_of (s : Sr W α F S H) {z : Vl} {q : V} (rx : VlR W α F S.length x v) (ry : VlR W α F S.length y u) (rz : VlR W α F S.length z q) (p : Post W E (VlX W) α F S H (mGet x y z S) Q) : ∃ a o, v = .ref a ∧ DGet H a u o ∧ Q (o.getD q) H := by
  unfold mGet at p
  cases y with
  | p n => exact p.elim
  | d k =>
    dsimp only at p
    cases hg : getOf x k S with
    | none => rw [hg] at p; exact p.elim
    | some o =>
      rw [hg] at p
      obtain ⟨a, w, e, g, h⟩ := get_of s rx ry hg
      rcases h with ⟨rfl, rfl⟩ | ⟨z', q', rfl, rfl, hr⟩
      · exact ⟨a, none, e, g, p.here s rz⟩
      · exact ⟨a, some q', e, g, p.here s hr⟩
theorem bind_step {τ τ' β β' : Type} {r : Res τ} {g : τ → Sto → Res τ'} {Rel : (Nat → Addr) → Hp → Sto → Hp → τ → β → Prop} {Rel' : (Nat → Addr) → Hp → Sto → Hp → τ' → β' → Prop} {Q : β' → Hp → Prop} (p : Post W E Rel' α F S H (r.bind g) Q) : Post W E Rel α F S H r (Mid W E Rel Rel' α F S H g Q) := p.bind
theorem consF1 {g : List Vl → Sto → Res Vl} {ρ : Env} : (consF fb nilF ρ S).bind g = (fb ρ S).bind fun y S => g [y] S := by
  unfold consF
  cases fb ρ S <;> rfl
theorem consF2 {g : List Vl → Sto → Res Vl} {ρ : Env} : (consF fb (consF fc nilF) ρ S).bind g = (fb ρ S).bind fun y S => (fc ρ S).bind fun z S => g [y, z] S := by
  unfold consF
  cases fb ρ S with
  | ok y S1 => simp only [Res.bind]; cases fc ρ S1 <;> rfl
  | _ => rfl
theorem de_get1 (hu : X.A.units + 100 < cLine) {o : Expr} {apos : Pos} (hb : noSuper o = true) (hl : (apos.endLine == pos.line) = true) (hs : notStar e = true) (ho : PE X o (tD W E fa)) (he : PE X e (tD W E fb)) :
    PE X (.Call (.Attribute o "get" apos) [e] [] pos) (tD W E (bmF .get fa (consF fb nilF))) := by
  refine peI (pe_dget1 (by omega) ho he ⟨attr_base hb, by rw [few_of (by simp [hs])]; rfl, hl, by rw [star_cons hs]; rfl⟩) fun σ H Q ⟨α, F, ρ, S, s, er, p⟩ => ⟨α, F, ρ, S, s, er, (Post.bind (Rel := VlX W) p).imp fun v H1 ⟨α1, F1, x, S1, x1, s1, r1, p1⟩ => ?_⟩
  dsimp only at p1
  by_cases ht : bmTy .get x S1 = true
  · rw [if_pos ht] at p1
    obtain ⟨a, e1, hd⟩ := isDct_of s1 r1 ht
    refine ⟨a, e1, hd, α1, F1, ρ, S1, s1, er.ext x1, ?_⟩
    rw [consF1] at p1
    exact (Post.bind (Rel := VlX W) p1).imp fun u H2 ⟨α2, F2, y, S2, x2, s2, r2, p2⟩ => by
      obtain ⟨a', o, e2, g, q⟩ := mget_of s2 (z := .d .non) (q := .non) (r1.ext x2) r2 rfl p2
      rw [e1] at e2
      cases e2
      exact ⟨o, g, q⟩
  · rw [if_neg ht] at p1; exact p1.elim
theorem de_get2 (hu : X.A.units + 100 < cLine) {o e2 : Expr} {apos : Pos} (hb : noSuper o = true) (hl : (apos.endLine == pos.line) = true) (hs : notStar e = true) (hs2 : notStar e2 = true) (ho : PE X o (tD W E fa)) (he : PE X e (tD W E fb)) (he2 : PE X e2 (tD W E fc)) :
    PE X (.Call (.Attribute o "get" apos) [e, e2] [] pos) (tD W E (bmF .get fa (consF fb (consF fc nilF)))) := by
  refine peI (pe_dget2 (by omega) ho he he2 ⟨attr_base hb, by rw [few_of (by simp [hs, hs2])]; rfl, hl, by rw [star_cons hs, star_cons hs2]; rfl⟩) fun σ H Q ⟨α, F, ρ, S, s, er, p⟩ => ⟨α, F, ρ, S, s, er, (Post.bind (Rel := VlX W) p).imp fun v H1 ⟨α1, F1, x, S1, x1, s1, r1, p1⟩ => ?_⟩
  dsimp only at p1
  by_cases ht : bmTy .get x S1 = true
  · rw [if_pos ht] at p1
    obtain ⟨a, e1, hd⟩ := isDct_of s1 r1 ht
    refine ⟨a, e1, hd, α1, F1, ρ, S1, s1, er.ext x1, ?_⟩
    rw [consF2] at p1
    exact (Post.bind (Rel := VlX W) p1).imp fun u H2 ⟨α2, F2, y, S2, x2, s2, r2, p2⟩ => ⟨α2, F2, ρ, S2, s2, (er.ext x1).ext x2, (Post.bind (Rel := VlX W) p2).imp fun w H3 ⟨α3, F3, z, S3, x3, s3, r3, p3⟩ => by
      obtain ⟨a', o, e2, g, q⟩ := mget_of s3 (r1.ext (x2.trans x3)) (r2.ext x3) r3 p3
      rw [e1] at e2
      cases e2
      exact ⟨o, g, q⟩⟩
  · rw [if_neg ht] at p1; exact p1.elim
end
end Z
end

section
set_option maxHeartbeats 1000000
/-! Z12: what is walked; comprehensions; calls. -/
namespace Z
open PySem L2

/-- an iterator hands out these values, whatever happens meanwhile -/
structure Walk (W : Wd) (J : It) (xs : List Vl) (α : Nat → Addr) (F : Hp) (S : Sto) (H : Hp) : Prop where
  turn : ∀ (i : Nat) (x : Vl), xs[i]? = some x → ∀ α' F' S' H', Ext α F S H α' F' S' H' → Sr W α' F' S' H' →
    J.go i H' ∧ ∀ v H2, J.yld i H' v H2 → ∃ F2, Ext α' F' S' H' α' F2 S' H2 ∧ Sr W α' F2 S' H2 ∧ VlR W α' F2 S'.length x v
  done : ∀ α' F' S' H', Ext α F S H α' F' S' H' → Sr W α' F' S' H' → J.stop xs.length H'

/-- the items of what is walked, and an iterator for them -/
def WalkR (W : Wd) : (Nat → Addr) → Hp → Sto → Hp → List Vl × Option (Nat × Cell) → It → Prop := fun α F S H q J => Walk W J q.1 α F (lock S q.2) H ∧ ∀ n c, q.2 = some (n, c) → S[n]? = some c ∧ c ≠ .dead
def tDI (W : Wd) (E : XK) (f : Env → Sto → Res (List Vl × Option (Nat × Cell))) : TI := fun σ H R => ∃ α F ρ S, Sr W α F S H ∧ EnvR W α F S.length ρ σ ∧ Post W E (WalkR W) α F S H (f ρ S) R
theorem piI {X : Cx} {tg it : Expr} {t t' : TI} (h : PI X tg it t) (k : ∀ σ H R, t' σ H R → t σ H R) : PI X tg it t' := ⟨fun pins s σ H R I q => h.run pins s σ H R I (k σ H R q)⟩
theorem piOr {X : Cx} {tg it : Expr} {t t' : TI} (h : PI X tg it t) (h' : PI X tg it t') : PI X tg it (fun σ H R => t σ H R ∨ t' σ H R) := ⟨fun pins s σ H R I q => q.elim (h.run pins s σ H R I) (h'.run pins s σ H R I)⟩

section
variable {X : Cx} {W : Wd} {E : XK} {a b c e tg : Expr} {es : List Expr} {pos : Pos} {fa fb fc : Env → Sto → Res Vl} {fs : Env → Sto → Res (List Vl)}
variable {α : Nat → Addr} {F : Hp} {S : Sto} {H : Hp} {Q : VK} {x y : Vl} {v u : V}

/-- the state behind a lock -/
theorem lock_sr (s : Sr W α F S H) {lk : Option (Nat × Cell)} (hk : ∀ n c, lk = some (n, c) → S[n]? = some c) : Sr W α F (lock S lk) H := by
  cases lk with
  | none => exact s
  | some q => exact s.lock (hk q.1 q.2 rfl)
theorem lock_ok {k : Ik} {vs xs : List Vl} {lk : Option (Nat × Cell)} (h : walked k vs S = some (xs, lk)) : ∀ n c, lk = some (n, c) → S[n]? = some c ∧ c ≠ .dead := by
  have key : ∀ v n c, lockOf v S = some (n, c) → S[n]? = some c := fun v n c h => by
    cases v with
    | d x => cases h
    | p m =>
      simp only [lockOf] at h
      cases e : S[m]? with
      | none => rw [e] at h; cases h
      | some c' => rw [e] at h; cases h; exact e
  have lst : ∀ {v : Vl} {ys : List Vl}, (seqOf v S = some ys ∨ listOf v S = some ys) → ∀ n c, lockOf v S = some (n, c) → S[n]? = some c ∧ c ≠ .dead := fun {v ys} h n c hl => by
    refine ⟨key v n c hl, fun e => ?_⟩
    subst e
    cases v with
    | d x => cases hl
    | p m =>
      have hm := key (.p m) n .dead hl
      simp only [lockOf] at hl
      cases e : S[m]? with
      | none => rw [e] at hl; cases hl
      | some c' =>
        rw [e] at hl
        cases hl
        rcases h with h | h
        · simp [seqOf, e] at h
        · simp [listOf, e] at h
  match vs, h with
  | [v], h =>
    cases k with
    | seq =>
      by_cases hs : ∃ z, v = .d (.str z)
      · obtain ⟨z, rfl⟩ := hs
        simp [walked] at h
        rw [← h.2]
        exact fun n c z => nomatch z
      · have e : walked .seq [v] S = (seqOf v S).map fun xs => (xs, lockOf v S) := by
          cases v with
          | p n => rfl
          | d x => cases x <;> first | rfl | exact absurd ⟨_, rfl⟩ hs
        rw [e] at h
        cases q : seqOf v S with
        | none => rw [q] at h; cases h
        | some ys => rw [q] at h; cases h; exact lst (.inl q)
    | range =>
      cases v with
      | p n => simp [walked] at h
      | d x =>
        cases x <;> simp [walked] at h
        rw [← h.2.2]
        exact fun n c z => nomatch z
    | rev =>
      simp only [walked] at h
      cases q : listOf v S with
      | none => rw [q] at h; cases h
      | some ys => rw [q] at h; cases h; exact lst (.inr q)
    | enum =>
      simp only [walked] at h
      cases q : listOf v S with
      | none => rw [q] at h; cases h
      | some ys =>
        rw [q] at h
        simp only at h
        cases q2 : pures ys with
        | none => rw [q2] at h; cases h
        | some ds => rw [q2] at h; cases h; exact lst (.inr q)
    | zip => simp [walked] at h
    | items => simp [walked] at h
  | [], h => simp [walked] at h
  | [u, v], h =>
    cases k with
    | range =>
      simp only [walked] at h
      cases q : rng2 u v with
      | none => rw [q] at h; cases h
      | some ys => rw [q] at h; cases h; exact fun n c z => nomatch z
    | _ => simp [walked] at h
  | _ :: _ :: _ :: _, h => simp [walked] at h
theorem lock_len (S : Sto) (lk : Option (Nat × Cell)) : (lock S lk).length = S.length := by
  cases lk <;> simp [lock]
/-- items that don't hang on the heap -/
theorem walk_const {J : It} {xs : List Vl} {vs : List V} (hl : xs.length = vs.length) (hgo : ∀ i H', i < xs.length → J.go i H') (hstop : ∀ H', J.stop xs.length H') (hy : ∀ i H' v H2, i < xs.length → J.yld i H' v H2 → H2 = H' ∧ vs[i]? = some v)
    (hv : ∀ (i : Nat) (x : Vl) (v : V), xs[i]? = some x → vs[i]? = some v → ∀ α' F' N, VlR W α' F' N x v) : Walk W J xs α F S H where
  turn := fun i x hx α' F' S' H' e s => by
    have hi : i < xs.length := (List.getElem?_eq_some_iff.mp hx).1
    refine ⟨hgo i H' hi, fun v H2 y => ?_⟩
    obtain ⟨rfl, q⟩ := hy i H' v H2 hi y
    exact ⟨F', Ext.refl, s, hv i x v hx q _ _ _⟩
  done := fun α' F' S' H' e s => hstop H'
theorem walk_rng {lo : Int} {n : Nat} {xs : List Vl} (hx : xs = (List.range n).map fun (i : Nat) => .d (.int (lo + (i : Int)))) : Walk W (Itr lo n) xs α F S H := by
  subst hx
  refine walk_const (vs := (List.range n).map fun (i : Nat) => .int (lo + (i : Int))) (by simp) (fun i _ h => by show i < n; simpa using h) (fun _ => by show n ≤ _; simp) (fun i H' v H2 hi y => ?_) fun i x v hx hv _ _ _ => ?_
  · obtain ⟨e1, e2⟩ := y
    have hi : i < n := by simpa using hi
    subst e2
    exact ⟨e1, by simp [hi]⟩
  · have hi : i < n := by
      have := (List.getElem?_eq_some_iff.mp hx).1
      simpa using this
    simp [hi] at hx hv
    subst hx hv
    rfl
/-- what is read at an address that stays -/
def StaysL (W : Wd) (α : Nat → Addr) (F : Hp) (S : Sto) (H : Hp) (a : Addr) (vs : List V) : Prop := ∀ α' F' S' H', Ext α F S H α' F' S' H' → Sr W α' F' S' H' → SqL W.K H' a vs
theorem stays_of (s : Sr W α F S H) {xs : List Vl} (r : VlR W α F S.length x v) (h : listOf x S = some xs) {lk : Option (Nat × Cell)} (hlk : lk = lockOf x S) :
    ∃ a vs, v = .ref a ∧ VlRs W α F S.length xs vs ∧ H a = some (.lst vs) ∧ StaysL W α F (lock S lk) H a vs := by
  cases x with
  | d d =>
    subst hlk
    cases d <;> simp [listOf] at h
    subst h
    obtain ⟨a, vs, rfl, q, rr⟩ := (show Rp W F _ _ from r)
    exact ⟨a, vs, rfl, .of_pure rr, s.sub _ _ q, fun α' F' S' H' e s' => .of (s'.sub _ _ (e.fr _ _ q))⟩
  | p n =>
    obtain ⟨rfl, hl⟩ := (show v = .ref (α n) ∧ n < S.length from r)
    simp only [listOf] at h
    cases hn : S[n]? with
    | none => rw [hn] at h; cases h
    | some c =>
      rw [hn] at h
      cases c <;> simp at h
      rename_i ys
      subst h
      simp only [lockOf, hn, Option.map_some] at hlk
      subst hlk
      obtain ⟨vs, hv, rr⟩ := s.cel n _ hn
      refine ⟨α n, vs, rfl, rr, hv, fun α' F' S' H' e s' => .of (e.frame _ _ hv fun m lm z => ?_)⟩
      -- no live cell of the locked state stands there
      obtain ⟨c, q, hc⟩ := lm
      have q : (S.set n .dead)[m]? = some c := q
      by_cases em : n = m
      · subst em
        rw [List.getElem?_set_self hl] at q
        exact hc (Option.some.inj q).symm
      · rw [List.getElem?_set_ne em] at q
        exact em (s.inj m n ⟨c, q, hc⟩ ⟨_, hn, fun z => nomatch z⟩ z).symm
theorem walk_list {a : Addr} {vs : List V} {xs : List Vl} {lk : Option (Nat × Cell)} (hK : W.K = X.K) (r : VlRs W α F S.length xs vs) (st : StaysL W α F (lock S lk) H a vs) : Walk W (Itl X.K a) xs α F (lock S lk) H where
  turn := fun i x hx α' F' S' H' e s => by
    obtain ⟨v, hv, rv⟩ := r.get hx
    have q := st α' F' S' H' e s
    rw [hK] at q
    refine ⟨⟨vs, v, q, hv⟩, fun v' H2 y => ?_⟩
    obtain ⟨e1, e2⟩ := y
    subst e1
    have := e2 vs q
    rw [hv] at this
    cases this
    exact ⟨F', Ext.refl, s, by rw [← lock_len S lk] at rv; exact rv.ext e⟩
  done := fun α' F' S' H' e s => by
    have q := st α' F' S' H' e s
    rw [hK] at q
    exact ⟨vs, q, by rw [r.length]; exact Nat.le_refl _⟩
theorem walk_rev {a : Addr} {vs : List V} {xs : List Vl} {lk : Option (Nat × Cell)} (hK : W.K = X.K) (r : VlRs W α F S.length xs vs) (st : StaysL W α F (lock S lk) H a vs) : Walk W (Itv X.K a vs.length) xs.reverse α F (lock S lk) H where
  turn := fun i x hx α' F' S' H' e s => by
    obtain ⟨v, hv, rv⟩ := r.reverse.get hx
    have hi : i < vs.length := by
      have := (List.getElem?_eq_some_iff.mp hv).1
      simpa using this
    have q := st α' F' S' H' e s
    rw [hK] at q
    have hv' : vs[vs.length - 1 - i]? = some v := by
      rw [List.getElem?_reverse hi] at hv
      exact hv
    refine ⟨⟨hi, vs, v, q, hv'⟩, fun v' H2 y => ?_⟩
    obtain ⟨e1, e2⟩ := y
    subst e1
    have := e2 vs q
    rw [hv'] at this
    cases this
    exact ⟨F', Ext.refl, s, by rw [← lock_len S lk] at rv; exact rv.ext e⟩
  done := fun α' F' S' H' e s => by
    show vs.length ≤ xs.reverse.length
    rw [List.length_reverse, r.length]
    exact Nat.le_refl _
theorem walk_tup {a : Addr} {vs : List V} {xs : List Vl} {lk : Option (Nat × Cell)} (hK : W.K = X.K) (r : VlRs W α F S.length xs vs) (q : SqT W.K F a vs) : Walk W (Itt X.K a) xs α F (lock S lk) H where
  turn := fun i x hx α' F' S' H' e s => by
    obtain ⟨v, hv, rv⟩ := r.get hx
    have q := s.sub.sqT (e.fr.sqT q)
    rw [hK] at q
    refine ⟨⟨vs, v, q, hv⟩, fun v' H2 y => ?_⟩
    obtain ⟨e1, e2⟩ := y
    subst e1
    have := e2 vs q
    rw [hv] at this
    cases this
    exact ⟨F', Ext.refl, s, by rw [← lock_len S lk] at rv; exact rv.ext e⟩
  done := fun α' F' S' H' e s => by
    have q := s.sub.sqT (e.fr.sqT q)
    rw [hK] at q
    exact ⟨vs, q, by rw [r.length]; exact Nat.le_refl _⟩
theorem walk_str (z : Tx) : Walk W (Its ⟨z.toArray⟩) (z.map fun c => .d (.str [c])) α F S H := by
  refine walk_const (vs := z.map fun c => .str ⟨#[c]⟩) (by simp) (fun i _ h => by show i < z.toArray.size; simpa using h) (fun _ => by show z.toArray.size ≤ _; simp) (fun i H' v H2 hi y => ?_) fun i x v hx hv _ _ _ => ?_
  · obtain ⟨e1, c, hc, e2⟩ := y
    subst e2
    refine ⟨e1, ?_⟩
    have hc : z[i]? = some c := by simpa using hc
    simp [hc]
  · rw [List.getElem?_map] at hx hv
    cases hz : z[i]? with
    | none => rw [hz] at hx; cases hx
    | some c =>
      rw [hz] at hx hv
      cases hx
      cases hv
      rfl
theorem walk_enum {a : Addr} {ds : List D} {vs : List V} {lk : Option (Nat × Cell)} (hK : W.K = X.K) (r : Rps W F ds vs) (st : StaysL W α F (lock S lk) H a vs) :
    Walk W (Ite X.K a) (((List.range ds.length).zip ds).map fun p => .d (.tup [.int (p.1 : Int), p.2])) α F (lock S lk) H where
  turn := fun i x hx α' F' S' H' e s => by
    rw [List.getElem?_map] at hx
    cases hz : ((List.range ds.length).zip ds)[i]? with
    | none => rw [hz] at hx; cases hx
    | some p =>
      rw [hz] at hx
      cases hx
      obtain ⟨h1, h2⟩ := List.getElem?_zip_eq_some.mp hz
      have hi : i < ds.length := (List.getElem?_eq_some_iff.mp h2).1
      rw [List.getElem?_range hi] at h1
      have h1 : i = p.1 := Option.some.inj h1
      obtain ⟨w, hw, rw'⟩ := r.get h2
      have q := st α' F' S' H' e s
      rw [hK] at q
      refine ⟨⟨vs, w, q, hw⟩, fun v' H2 y => ?_⟩
      obtain ⟨T, w', rfl, hT, rfl, e2⟩ := y
      have := e2 vs q
      rw [hw] at this
      cases this
      obtain ⟨s', x'⟩ := s.newF (o := .tup [.int (i : Nat), w]) hT
      refine ⟨_, x', s', T, [.int (i : Nat), w], rfl, upd_same, .int (i : Int), [w], rfl, by rw [h1]; rfl, w, [], rfl, ?_, rfl⟩
      exact Rp.mono (e.fr.trans x'.fr) rw'
  done := fun α' F' S' H' e s => by
    have q := st α' F' S' H' e s
    rw [hK] at q
    exact ⟨vs, q, by simp [r.length]⟩

/-! ### the forms -/
theorem evs1 {ρ : Env} {τ : Type} {g : List Vl → Sto → Res τ} : (consF fa nilF ρ S).bind g = (fa ρ S).bind fun v S => g [v] S := by
  unfold consF
  cases fa ρ S <;> rfl
theorem res_cases {τ : Type} (r : Res τ) : (∃ a S, r = .ok a S) ∨ (∃ e S, r = .exc e S) ∨ r = .bad := by
  cases r
  · exact .inl ⟨_, _, rfl⟩
  · exact .inr (.inl ⟨_, _, rfl⟩)
  · exact .inr (.inr rfl)
theorem pi_any {t : TE} (hl : PE X e t) : PI X tg e (fun σ H R => t σ H fun x H1 => (∃ a, x = .ref a ∧ (∃ xs, SqL X.K H1 a xs) ∧ R (Itl X.K a) H1) ∨ (∃ a, x = .ref a ∧ (∃ xs, SqT X.K H1 a xs) ∧ R (Itt X.K a) H1) ∨ ∃ z, x = .str z ∧ R (Its z) H1) := by
  refine ⟨fun pins s σ H R I h => ?_⟩
  refine thn (hl.run pins s σ H _ I h) fun v s1 ⟨x, H1, I1, r1, q1⟩ => ?_
  rcases q1 with ⟨a, e, ⟨xs, hq⟩, q⟩ | ⟨a, e, ⟨xs, hq⟩, q⟩ | ⟨z, e, q⟩
  · subst e
    cases r1
    obtain ⟨its, rv, p, hz⟩ := I1.list hq
    refine wpAny_pyIter_list p.isList ?_
    refine ⟨s1.heap.objs.size, [s1.heap.objs.size], _, _, H1, rfl, I1.kept (t' := s1.toks) fun b o e => Heap.get?_push_of_some _ e, turn_list a _, ⟨_, Heap.get?_push_size _ rfl, rfl, rfl⟩, fun b hb => ?_, q⟩
    have e : b = s1.heap.objs.size := by simpa using hb
    subst e
    exact I1.fpOk (Nat.le_refl _) (I1.hok.fresh (Nat.le_refl _))
  · subst e
    cases r1
    obtain ⟨its, rv, p, hz⟩ := I1.tuple hq
    refine wpAny_pyIter_tuple (show s1.heap.IsTuple a its.toArray from p) ?_
    refine ⟨s1.heap.objs.size, [s1.heap.objs.size], _, _, H1, rfl, I1.kept (t' := s1.toks) fun b o e => Heap.get?_push_of_some _ e, turn_tuple a _, ⟨_, Heap.get?_push_size _ rfl, rfl, rfl⟩, fun b hb => ?_, q⟩
    have e : b = s1.heap.objs.size := by simpa using hb
    subst e
    exact I1.fpOk (Nat.le_refl _) (I1.hok.fresh (Nat.le_refl _))
  · subst e
    obtain ⟨t, rfl⟩ := r1
    cases ha : z.cps.all (· < 128)
    · exact wpAny_pyIter_wide ha (pi_one (tk := s1.toks) I1 _ (turn_str _ z t "str_iterator" (.inr rfl)) ⟨_, Heap.get?_push_size _ rfl, rfl, rfl⟩ q)
    · exact wpAny_pyIter_ascii ha (pi_one (tk := s1.toks) I1 _ (turn_str _ z t "str_ascii_iterator" (.inl rfl)) ⟨_, Heap.get?_push_size _ rfl, rfl, rfl⟩ q)
/-- one value, then what is walked of it -/
theorem di_one {t : TE} {k : Ik} {wi : V → Hp → (It → Hp → Prop) → Prop} (h : PI X tg c (fun σ H R => tD W E fa σ H fun v H1 => wi v H1 R))
    (go : ∀ {α F S H x v xs lk} {R : It → Hp → Prop}, Sr W α F S H → VlR W α F S.length x v → walked k [x] S = some (xs, lk) → (∀ J, Walk W J xs α F (lock S lk) H → R J H) → wi v H R) :
    PI X tg c (tDI W E fun ρ S => (consF fa nilF ρ S).bind (walkF k)) := by
  refine piI h fun σ H R ⟨α, F, ρ, S, s, er, p⟩ => ⟨α, F, ρ, S, s, er, ?_⟩
  dsimp only at p
  rw [evs1] at p
  refine (Post.bind (Rel := VlX W) p).imp fun v H1 ⟨α1, F1, x, S1, x1, s1, r1, p1⟩ => ?_
  unfold walkF at p1
  dsimp only at p1
  cases hw : walked k [x] S1 with
  | none => rw [hw] at p1; exact p1.elim
  | some q =>
    rw [hw] at p1
    obtain ⟨xs, lk⟩ := q
    exact go s1 r1 hw fun J hJ => p1.here s1 ⟨hJ, lock_ok hw⟩
theorem di_seq (hK : W.K = X.K) (he : PE X e (tD W E fa)) : PI X tg e (tDI W E fun ρ S => (consF fa nilF ρ S).bind (walkF .seq)) := by
  refine di_one (t := tD W E fa) (pi_any he) fun {α F S H x v xs lk R} s r hw k => ?_
  cases hq : seqOf x S with
  | none =>
    cases x with
    | p n => simp [walked, hq] at hw
    | d x =>
      cases x with
      | str z =>
        simp [walked] at hw
        obtain ⟨rfl, rfl⟩ := hw
        exact .inr (.inr ⟨⟨z.toArray⟩, r, k _ (walk_str z)⟩)
      | _ => simp [walked, hq] at hw
  | some ys =>
    have e : walked .seq [x] S = some (ys, lockOf x S) := by
      cases x with
      | p n => simp [walked, hq]
      | d x => cases x <;> first | (simp [seqOf] at hq; done) | simp [walked, hq]
    rw [e] at hw
    have hw := Option.some.inj hw
    obtain ⟨h1, h2⟩ := Prod.mk.inj hw
    subst h1 h2
    cases hl : listOf x S with
    | some zs =>
      obtain ⟨a, vs, rfl, rr, hv, st⟩ := stays_of s r hl rfl
      have : zs = ys := by
        cases x with
        | p n => 
          simp only [listOf, seqOf] at hl hq
          rw [hl] at hq
          exact Option.some.inj hq
        | d x => cases x <;> simp [listOf] at hl <;> simp [seqOf] at hq <;> rw [← hl, ← hq]
      subst this
      exact .inl ⟨a, rfl, ⟨vs, .of hv⟩, k _ (walk_list hK rr st)⟩
    | none =>
      cases x with
      | p n =>
        simp only [listOf, seqOf] at hl hq
        rw [hl] at hq
        cases hq
      | d x =>
        cases x with
        | tup ds =>
          simp [seqOf] at hq
          subst hq
          obtain ⟨a, vs, rfl, q, rr⟩ := (show Rp W F (.tup ds) v from r)
          exact .inr (.inl ⟨a, rfl, ⟨vs, by rw [← hK]; exact s.sub.sqT (.of q)⟩, k _ (walk_tup (lk := none) hK (.of_pure rr) (.of q))⟩)
        | scr ns =>
          simp [seqOf] at hq
          subst hq
          obtain ⟨a, rfl, q⟩ := (show Rp W F (.scr ns) v from r)
          refine .inl ⟨a, rfl, ⟨_, by rw [← hK]; exact s.sub.sqL q⟩, k _ (walk_list (lk := none) (vs := ns.map V.int) hK ?_ fun α' F' S' H' e s' => s'.sub.sqL (e.fr.sqL q))⟩
          have : VlRs W α F S.length ((ns.map D.int).map .d) (ns.map V.int) := .of_pure (ints_rps ns)
          rw [List.map_map] at this
          exact this
        | _ => simp [seqOf] at hq <;> simp [listOf] at hl
theorem di_rng1 (hg : Gl X "range") (hm : X.mg "range" = none) (hs : notStar a = true) {p1 : Pos} (ha : PE X a (tD W E fa)) : PI X tg (.Call (.Name "range" p1) [a] [] pos) (tDI W E fun ρ S => (consF fa nilF ρ S).bind (walkF .range)) := by
  refine di_one (t := tD W E fa) (wi := fun v H1 R => ∃ j : Int, [v] = [.int j] ∧ -(2 ^ 62) ≤ j ∧ j < 2 ^ 62 ∧ R (Itr 0 j.toNat) H1) (pi_range1 hg hm (pa_cons ha pa_nil (star_cons hs)) (star_cons hs)) fun {α F S H x v xs lk R} s r hw k => ?_
  cases x with
  | p n => simp [walked] at hw
  | d x =>
    cases x with
    | int n =>
      have hw : (if decide (-(2 ^ 62) ≤ n) && decide (n < 2 ^ 62) then some ((List.range n.toNat).map fun (i : Nat) => Vl.d (.int (i : Int)), none) else none) = some (xs, lk) := hw
      by_cases hz : (decide (-(2 ^ 62) ≤ n) && decide (n < 2 ^ 62)) = true
      · rw [if_pos hz] at hw
        cases hw
        rw [Bool.and_eq_true] at hz
        cases (show v = V.int n from r)
        exact ⟨n, rfl, of_decide_eq_true hz.1, of_decide_eq_true hz.2, k _ (walk_rng (by simp))⟩
      · rw [if_neg hz] at hw; cases hw
    | _ => simp [walked] at hw
theorem di_rng2 (hg : Gl X "range") (hm : X.mg "range" = none) (hs : notStar a = true) (hs2 : notStar b = true) {p1 : Pos} (ha : PE X a (tD W E fa)) (hb : PE X b (tD W E fb)) : PI X tg (.Call (.Name "range" p1) [a, b] [] pos) (tDI W E fun ρ S => (consF fa (consF fb nilF) ρ S).bind (walkF .range)) := by
  refine piI (pi_range2 hg hm (da_cons hs ha (da_cons hs2 hb da_nil)) (by rw [star_cons hs, star_cons hs2]; rfl) (by rw [star_cons hs2]; rfl)) fun σ H R ⟨α, F, ρ, S, s, er, p⟩ => ?_
  have p : Post W E (WalkR W) α F S H ((consF fa (consF fb nilF) ρ S).bind (walkF .range)) R := p
  refine ⟨α, F, ρ, S, s, er, ?_⟩
  cases hr : consF fa (consF fb nilF) ρ S with
  | bad => rw [hr] at p; exact p.elim
  | exc e S' => rw [hr] at p; exact p
  | ok xs S1 =>
    have hl : ∃ x y, xs = [x, y] := by
      unfold consF at hr
      cases h1 : fa ρ S with
      | bad => rw [h1] at hr; cases hr
      | exc e S' => rw [h1] at hr; cases hr
      | ok x S2 =>
        rw [h1] at hr
        simp only [Res.bind, nilF] at hr
        cases h2 : fb ρ S2 with
        | bad => rw [h2] at hr; cases hr
        | exc e S' => rw [h2] at hr; cases hr
        | ok y S3 =>
          rw [h2] at hr
          cases hr
          exact ⟨x, y, rfl⟩
    obtain ⟨x, y, rfl⟩ := hl
    rw [hr] at p
    intro vs α1 F1 H1 x1 s1 r1
    have p1 : Post W E (WalkR W) α F S H (walkF .range [x, y] S1) R := p
    unfold walkF at p1
    cases hw : rng2 x y with
    | none => simp [walked, hw] at p1; exact p1.elim
    | some zs =>
      simp only [walked, hw, Option.map_some] at p1
      cases r1 with
      | cons ra rb =>
        cases rb with
        | cons rb rc =>
          cases rc
          cases x with
          | p n => simp [rng2] at hw
          | d x =>
            cases x with
            | int i =>
              cases y with
              | p n => simp [rng2] at hw
              | d y =>
                cases y with
                | int j =>
                  have hw : (if inRng i && inRng j then some (rngs i j) else none) = some zs := hw
                  by_cases hz : (inRng i && inRng j) = true
                  · rw [if_pos hz] at hw
                    cases hw
                    simp only [inRng, Bool.and_eq_true, decide_eq_true_eq] at hz
                    rename_i va vb
                    cases (show va = V.int i from ra)
                    cases (show vb = V.int j from rb)
                    exact ⟨i, j, rfl, ⟨hz.1.1, hz.1.2, hz.2.1, hz.2.2⟩, p1 _ α1 F1 H1 x1 s1 ⟨walk_rng rfl, fun n c z => nomatch z⟩⟩
                  · rw [if_neg hz] at hw; cases hw
                | _ => simp [rng2] at hw
            | _ => simp [rng2] at hw
theorem di_rev (hK : W.K = X.K) (hg : Gl X "reversed") (hm : X.mg "reversed" = none) (hs : notStar a = true) {p1 : Pos} (ha : PE X a (tD W E fa)) : PI X tg (.Call (.Name "reversed" p1) [a] [] pos) (tDI W E fun ρ S => (consF fa nilF ρ S).bind (walkF .rev)) := by
  refine di_one (t := tD W E fa) (wi := fun v H1 R => ∃ (a : Addr) (xs : List V), [v] = [.ref a] ∧ SqL X.K H1 a xs ∧ R (Itv X.K a xs.length) H1) (pi_reversed hg hm (pa_cons ha pa_nil (star_cons hs)) (star_cons hs)) fun {α F S H x v xs lk R} s r hw k => ?_
  cases hl : listOf x S with
  | none => simp [walked, hl] at hw
  | some ys =>
    simp [walked, hl] at hw
    obtain ⟨rfl, rfl⟩ := hw
    obtain ⟨a, vs, rfl, rr, hv, st⟩ := stays_of s r hl rfl
    exact ⟨a, vs, rfl, .of hv, k _ (walk_rev hK rr st)⟩
theorem di_enum {elts : List Expr} {kk : Nat} {tpos : Pos} (hK : W.K = X.K) (hg : Gl X "enumerate") (hm : X.mg "enumerate" = none) (hs : notStar a = true) {p1 : Pos} (ha : PE X a (tD W E fa)) :
    PI X (.Tuple elts kk tpos) (.Call (.Name "enumerate" p1) [a] [] pos) (tDI W E fun ρ S => (consF fa nilF ρ S).bind (walkF .enum)) := by
  refine di_one (t := tD W E fa) (wi := fun v H1 R => ∃ (a : Addr) (xs : List V), [v] = [.ref a] ∧ SqL X.K H1 a xs ∧ R (Ite X.K a) H1) (pi_enum hg hm (pa_cons ha pa_nil (star_cons hs)) (star_cons hs)) fun {α F S H x v xs lk R} s r hw k => ?_
  cases hl : listOf x S with
  | none => simp [walked, hl] at hw
  | some ys =>
    cases hp : pures ys with
    | none => simp [walked, hl, hp] at hw
    | some ds =>
      simp [walked, hl, hp] at hw
      obtain ⟨rfl, rfl⟩ := hw
      obtain ⟨a, vs, rfl, rr, hv, st⟩ := stays_of s r hl rfl
      exact ⟨a, vs, rfl, .of hv, k _ (walk_enum hK (rr.pures hp) st)⟩
end
end Z
end

section
set_option maxHeartbeats 1000000
/-! Z13: targets, comprehensions, calls. -/
namespace Z
open PySem L2

section
variable {X : Cx} {W : Wd} {E : XK} {a b c e tg : Expr} {es : List Expr} {pos : Pos} {fa fb fc : Env → Sto → Res Vl} {fs : Env → Sto → Res (List Vl)}
variable {α : Nat → Addr} {F : Hp} {S : Sto} {H : Hp} {Q : VK} {x y : Vl} {v u : V}

/-! ### targets -/
/-- names are stored -/
structure Stored (W : Wd) (α : Nat → Addr) (F : Hp) (N : Nat) (is : List Nat) (σ : L2.St) (ρ' : Env) (σ' : L2.St) : Prop where
  env : EnvR W α F N ρ' σ'
  out : ∀ (j : Nat), j ∉ is → σ'[j]? = σ[j]?
  len : σ'.length = σ.length
def gD (W : Wd) (t : Tg) : TG := fun v σ H Q => ∃ α F S x ρ ρ', Sr W α F S H ∧ EnvR W α F S.length ρ σ ∧ VlR W α F S.length x v ∧ bindT t x ρ = some ρ' ∧ ∀ σ', Stored W α F S.length t.slots σ ρ' σ' → Q σ' H
def gDs (W : Wd) (ts : List Tg) : TGs := fun vs σ H Q => ∃ α F S ds ρ ρ', Sr W α F S H ∧ EnvR W α F S.length ρ σ ∧ Rps W F ds vs ∧ bindTs ts ds ρ = some ρ' ∧ ∀ σ', Stored W α F S.length (Tg.slotss ts) σ ρ' σ' → Q σ' H
theorem pgI {t t' : TG} (h : PG X tg t) (k : ∀ v σ H Q, t' v σ H Q → t v σ H Q) : PG X tg t' := ⟨fun pins s σ H x u Q I r q => h.run pins s σ H x u Q I r (k x σ H Q q)⟩
theorem pgsI {t t' : TGs} (h : PGs X es t) (k : ∀ v σ H Q, t' v σ H Q → t v σ H Q) : PGs X es t' := ⟨fun pins s σ H x u Q I r q => h.run pins s σ H x u Q I r (k x σ H Q q)⟩
theorem dg_var {i : Nat} {n : Str} (hN : X.N.Nodup) (hi : X.N[i]? = some n) (hx : Loc X.env.scope n) (hf : X.fn n = true ∨ X.env.scope.names.lookup n = some .local) : PG X (.Name n pos) (gD W (.var i)) :=
  pgI (pg_name hN hi hx hf) fun v σ H Q ⟨α, F, S, x, ρ, ρ', s, er, r, hb, k⟩ => by
    cases hb
    refine k _ ⟨er.set r i, fun j hj => ?_, by simp⟩
    have ne : i ≠ j := fun z => hj (by simp [Tg.slots, z])
    rw [List.getElem?_set_ne ne]
theorem asg_cons (h : notStar e = true) {env : PySem.Env} : assignEach (e :: es) env = (false, assign e env) :: assignEach es env := by
  cases e <;> first | rfl | (simp [notStar] at h)
theorem asg_len : ∀ {es : List Expr} {env : PySem.Env}, es.all notStar = true → (assignEach es env).length = es.length
  | [], _, _ => rfl
  | e :: es, env, h => by
    rw [List.all_cons, Bool.and_eq_true] at h
    rw [asg_cons h.1, List.length_cons, asg_len h.2, List.length_cons]
theorem asg_star : ∀ {es : List Expr} {env : PySem.Env}, es.all notStar = true → List.findIdx? (fun x => x.fst) (assignEach es env) = none
  | [], _, _ => rfl
  | e :: es, env, h => by
    rw [List.all_cons, Bool.and_eq_true] at h
    rw [asg_cons h.1, List.findIdx?_cons]
    simp [asg_star h.2]
theorem dg_tup {k : Nat} {ts : List Tg} (hK : W.K = X.K) (hc : X.calm = true) (hn : es.all notStar = true) (h : PGs X es (gDs W ts)) (hl : ts.length = es.length) : PG X (.Tuple es k pos) (gD W (.tup ts)) := by
  refine pgI (pg_tup (n := es.length) hc h (asg_len hn) (asg_star hn)) fun v σ H Q ⟨α, F, S, x, ρ, ρ', s, er, r, hb, k⟩ => ?_
  cases x with
  | p n => cases hb
  | d x =>
    cases x with
    | tup ds =>
      obtain ⟨a, vs, rfl, q, rr⟩ := (show Rp W F (.tup ds) v from r)
      have hb : bindTs ts ds ρ = some ρ' := hb
      have len : ∀ (ts : List Tg) (ds : List D) (ρ ρ' : Env), bindTs ts ds ρ = some ρ' → ds.length = ts.length := by
        intro ts
        induction ts with
        | nil => intro ds ρ ρ' h; cases ds <;> simp [bindTs] at h ⊢
        | cons t ts ih =>
          intro ds ρ ρ' h
          cases ds with
          | nil => simp [bindTs] at h
          | cons d ds =>
            simp only [bindTs] at h
            cases e : bindT t (.d d) ρ with
            | none => rw [e] at h; cases h
            | some ρ1 => rw [e] at h; simp [ih ds ρ1 ρ' h]
      exact ⟨a, vs, rfl, by rw [← hK]; exact s.sub.sqT (.of q), by rw [← rr.length, len ts ds ρ ρ' hb, hl], α, F, S, ds, ρ, ρ', s, er, rr, hb, k⟩
    | _ => cases hb
theorem dgs_nil : PGs X [] (gDs W []) := pgsI pgs_nil fun vs σ H Q ⟨α, F, S, ds, ρ, ρ', s, er, r, hb, k⟩ => by
  cases ds with
  | nil =>
    cases hb
    exact ⟨r, k σ ⟨er, fun _ _ => rfl, rfl⟩⟩
  | cons _ _ => cases hb
theorem dgs_cons {t : Tg} {ts : List Tg} (hn : notStar e = true) (h : PG X e (gD W t)) (hs : PGs X es (gDs W ts)) : PGs X (e :: es) (gDs W (t :: ts)) := pgsI (pgs_cons h hs (by rw [asg_cons hn]; rfl)) fun vs σ H Q ⟨α, F, S, ds, ρ, ρ', s, er, r, hb, k⟩ => by
  cases ds with
  | nil => cases hb
  | cons d ds =>
    obtain ⟨v, r0, rfl, r1, r2⟩ := r
    simp only [bindTs] at hb
    cases e1 : bindT t (.d d) ρ with
    | none => rw [e1] at hb; cases hb
    | some ρ1 =>
      rw [e1] at hb
      refine ⟨v, r0, rfl, α, F, S, .d d, ρ, ρ1, s, er, r1, e1, fun σ1 st1 => ⟨α, F, S, ds, ρ1, ρ', s, st1.env, r2, hb, fun σ2 st2 => k σ2 ⟨st2.env, fun j hj => ?_, st2.len.trans st1.len⟩⟩⟩
      have hj : j ∉ t.slots ∧ j ∉ Tg.slotss ts := by simpa [Tg.slotss, List.mem_append, not_or] using hj
      rw [st2.out j hj.2, st1.out j hj.1]

/-! ### list comprehensions -/
theorem wipe_get (σ : L2.St) : ∀ (vs : List Nat) (j : Nat), (L2.wipe σ vs)[j]? = if j ∈ vs ∧ j < σ.length then some none else σ[j]?
  | [], j => by simp [L2.wipe]
  | i :: vs, j => by
    unfold L2.wipe
    by_cases e : i = j
    · subst e
      by_cases hl : i < σ.length
      · rw [List.getElem?_set_self (by rw [wipe_length]; exact hl)]
        simp [hl]
      · rw [List.getElem?_eq_none (by simp [wipe_length]; omega)]
        simp [hl]
    · rw [List.getElem?_set_ne e, wipe_get σ vs j]
      have : (j ∈ i :: vs) ↔ j ∈ vs := by
        rw [List.mem_cons]
        exact ⟨fun z => z.resolve_left fun w => e w.symm, .inr⟩
      simp only [this]
theorem wipe_stored {α : Nat → Addr} {N : Nat} {σ σ' : L2.St} {ρ' : Env} {is vs : List Nat} (h : Stored W α F N is (L2.wipe σ vs) ρ' σ') (hs : ∀ i ∈ is, i ∈ vs) : L2.wipe σ' vs = L2.wipe σ vs := by
  have hl : σ'.length = σ.length := by rw [h.len, wipe_length]
  apply List.ext_getElem?
  intro j
  rw [wipe_get, wipe_get, hl]
  by_cases hj : j ∈ vs ∧ j < σ.length
  · rw [if_pos hj, if_pos hj]
  · rw [if_neg hj, if_neg hj]
    by_cases hv : j ∈ vs
    · have h1 : ¬ j < σ.length := fun z => hj ⟨hv, z⟩
      rw [List.getElem?_eq_none (by omega), List.getElem?_eq_none (by omega)]
    · rw [h.out j fun z => hv (hs j z), wipe_get, if_neg fun z => hv z.1]
theorem unlock_opt (s : Sr W α F S H) {lk : Option (Nat × Cell)} (hk : ∀ n c, lk = some (n, c) → S[n]? = some c ∧ c ≠ .dead) {α' : Nat → Addr} {F' : Hp} {S' : Sto} {H' : Hp} (x : Ext α F (lock S lk) H α' F' S' H') (s' : Sr W α' F' S' H') :
    Sr W α' F' (unlock S' lk) H' ∧ Ext α F S H α' F' (unlock S' lk) H' := by
  cases lk with
  | none => exact ⟨s', x⟩
  | some q =>
    obtain ⟨h1, h2⟩ := hk q.1 q.2 rfl
    exact s.unlock h1 x s' h2
/-- the list that was made becomes the answer -/
theorem fin_made {cell : Bool} {α0 : Nat → Addr} {F0 : Hp} {S0 : Sto} {H0 : Hp} {d0 : Addr} {xs : List Vl} {vs : List V} (p : Post W E (VlX W) α0 F0 S0 H0 (newList cell xs S) Q) (x : Ext α0 F0 S0 H0 α F S H) (s : Sr W α F S H) (hd : H0 d0 = none) (o : Oth α F S d0) (h : H d0 = some (.lst vs)) (r : VlRs W α F S.length xs vs) : Q (.ref d0) H := by
  unfold newList at p
  split at p
  · split at p
    · refine p _ _ _ _ (x.adoptC hd) (s.adoptC o h (c := .lst xs) ⟨vs, h, r.mono (fun n hn => adr_ne (Nat.ne_of_lt hn)) (Nat.le_succ _) (Sub.refl F)⟩) ⟨by rw [adr_same], by simp⟩
    · split at p
      · rename_i ds hp
        exact p _ _ _ _ (x.adoptF hd o.f) (s.adoptF o h) ⟨d0, vs, rfl, upd_same, Rps.mono (fun a v q => by rw [upd_ne (ne_of_none q o.f)]; exact q) (r.pures hp)⟩
      · exact p.elim
  · exact p.elim
def lcF (fcond : Env → Sto → Res Bool) (fe : Env → Sto → Res Vl) : Env → Sto → Res (Option Vl) := fun ρ S => (fcond ρ S).bind fun b S => if b then (fe ρ S).bind fun y S => .ok (some y) S else .ok none S
def lcAll (cell : Bool) (t : Tg) (own : List Nat) (fi : Env → Sto → Res (List Vl × Option (Nat × Cell))) (fcond : Env → Sto → Res Bool) (fe : Env → Sto → Res Vl) : Env → Sto → Res Vl := fun ρ S =>
  (fi ρ S).bind fun q S => (turns (lcF fcond fe) t (Z.wipe ρ own) q.1 [] (lock S q.2)).bind fun ys S => newList cell ys (unlock S q.2)
theorem lc_read {own : List (Str × Nat)} {cell : Bool} {t : Tg} {fi : Env → Sto → Res (List Vl × Option (Nat × Cell))} {fcond : Env → Sto → Res Bool} {fe : Env → Sto → Res Vl} (hsub : ∀ i ∈ t.slots, i ∈ own.map (·.2))
    {σ : L2.St} {H : Hp} {Q : VK} (h : tD W E (lcAll cell t (own.map (·.2)) fi fcond fe) σ H Q) : tLc (tDI W E fi) (gD W t) (tDT W E0 fcond) (tD W E0 fe) (own.map (·.2)) σ H Q := by
  obtain ⟨α, F, ρ, S, s, er, p⟩ := h
  refine ⟨α, F, ρ, S, s, er, (Post.bind (Rel := WalkR W) p).imp fun J H1 ⟨α1, F1, q, S1, x1, s1, ⟨wk, lkok⟩, p1⟩ => ?_⟩
  dsimp only at p1
  intro d0 hd0
  obtain ⟨xs, lk⟩ := q
  dsimp only at wk lkok p1
  have s1l : Sr W α1 F1 (lock S1 lk) H1 := lock_sr s1 fun n c h => (lkok n c h).1
  have e1 : EnvR W α1 F1 (lock S1 lk).length ρ σ := by rw [lock_len]; exact er.ext x1
  generalize hfull : turns (lcF fcond fe) t (Z.wipe ρ (own.map (·.2))) xs [] (lock S1 lk) = full at p1
  let Winv : Nat → Nat → Hp → Prop := fun i m H' => m = xs.length - i ∧ i ≤ xs.length ∧ ∃ αc Fc Sc acc vs, Ext α1 F1 (lock S1 lk) H1 αc Fc Sc H' ∧ Sr W αc Fc Sc H' ∧ Oth αc Fc Sc d0 ∧ H' d0 = some (.lst vs) ∧ VlRs W αc Fc Sc.length acc vs ∧
    turns (lcF fcond fe) t (Z.wipe ρ (own.map (·.2))) (xs.drop i) acc Sc = full
  refine ⟨Winv, ⟨xs.length, rfl, Nat.zero_le _, α1, F1, lock S1 lk, [], [], Ext.refl.oth hd0, s1l.oth (s1l.oth0 hd0), s1l.oth0 hd0, upd_same, .nil, hfull⟩, ?_⟩
  rintro i m H' ⟨rfl, hi', αc, Fc, Sc, acc, vs, x2, s2, o2, hd2, r2, hf2⟩
  by_cases hlt : i < xs.length
  · -- one more turn
    have hx : xs[i]? = some xs[i] := List.getElem?_eq_getElem hlt
    obtain ⟨go, yl⟩ := wk.turn i xs[i] hx αc Fc Sc H' x2 s2
    rw [List.drop_eq_getElem_cons hlt] at hf2
    unfold turns at hf2
    refine .inr ⟨go, Winv (i + 1) (xs.length - (i + 1)), fun H'' w => ⟨_, by omega, w⟩, fun v H2 y => ?_⟩
    obtain ⟨F2, x3, s3, r3⟩ := yl v H2 y
    have e3 := e1.ext (x2.trans x3)
    cases hb : bindT t xs[i] (Z.wipe ρ (own.map (·.2))) with
    | none =>
      rw [hb] at hf2
      rw [← hf2] at p1
      exact p1.elim
    | some ρ' =>
      rw [hb] at hf2
      simp only at hf2
      refine ⟨αc, F2, Sc, xs[i], Z.wipe ρ (own.map (·.2)), ρ', s3, e3.wipe _, r3, hb, fun σ' st => ⟨wipe_stored st hsub, αc, F2, ρ', Sc, s3, st.env, ?_⟩⟩
      have nope : (∀ o S', lcF fcond fe ρ' Sc ≠ .ok o S') → False := fun hno => by
        cases hq : lcF fcond fe ρ' Sc with
        | ok o S' => exact hno o S' hq
        | exc ee S' => rw [hq] at hf2; rw [← hf2] at p1; exact p1.elim
        | bad => rw [hq] at hf2; rw [← hf2] at p1; exact p1.elim
      cases hcd : fcond ρ' Sc with
      | bad => exact (nope fun o S' z => by simp [lcF, hcd, Res.bind] at z).elim
      | exc ee S' => exact (nope fun o S' z => by simp [lcF, hcd, Res.bind] at z).elim
      | ok b S3 =>
        intro b' α4 F4 H4 x4 s4 eb
        cases (show b = b' from eb)
        have x34 := x3.trans x4
        cases b with
        | false =>
          have hq : lcF fcond fe ρ' Sc = .ok none S3 := by simp [lcF, hcd, Res.bind]
          rw [hq] at hf2
          simp only at hf2
          rw [if_neg Bool.false_ne_true]
          obtain ⟨o4, hd4⟩ := o2.ext x34 hd2
          exact ⟨rfl, hlt, α4, F4, S3, acc, vs, x2.trans x34, s4, o4, hd4, r2.ext x34, hf2⟩
        | true =>
          rw [if_pos rfl]
          refine ⟨α4, F4, ρ', S3, s4, st.env.ext x4, ?_⟩
          cases hfe : fe ρ' S3 with
          | bad => exact (nope fun o S' z => by simp [lcF, hcd, hfe, Res.bind] at z).elim
          | exc ee S' => exact (nope fun o S' z => by simp [lcF, hcd, hfe, Res.bind] at z).elim
          | ok y S4 =>
            intro w α5 F5 H5 x5 s5 rw5
            have hq : lcF fcond fe ρ' Sc = .ok (some y) S4 := by simp [lcF, hcd, hfe, Res.bind]
            rw [hq] at hf2
            simp only at hf2
            by_cases hz : acc.length < most
            · rw [if_pos (by simpa using hz)] at hf2
              have x35 := x34.trans x5
              obtain ⟨o5, hd5⟩ := o2.ext x35 hd2
              refine ⟨vs, hd5, by rw [← r2.length, ← most_eq]; exact hz, rfl, hlt, α5, F5, S4, acc ++ [y], vs ++ [w], (x2.trans x35).oth hd0, s5.oth o5, o5, upd_same, (r2.ext x35).append (.cons rw5 .nil), hf2⟩
            · rw [if_neg (by simpa using hz)] at hf2
              rw [← hf2] at p1
              exact p1.elim
  · -- the end
    have hi2 : i = xs.length := by omega
    subst hi2
    rw [List.drop_length] at hf2
    unfold turns at hf2
    rw [← hf2] at p1
    refine .inl ⟨wk.done αc Fc Sc H' x2 s2, ?_⟩
    obtain ⟨s6, x6⟩ := unlock_opt s1 lkok x2 s2
    have o6 : Oth αc Fc (unlock Sc lk) d0 := by
      refine ⟨o2.f, fun n l z => ?_⟩
      obtain ⟨c, hc, hcd⟩ := l
      obtain ⟨u, hu⟩ := s6.there ⟨c, hc, hcd⟩
      by_cases hn : Live Sc n
      · exact o2.c n hn z
      · cases lk with
        | none => exact hn ⟨c, hc, hcd⟩
        | some q =>
          obtain ⟨h1, h2⟩ := lkok q.1 q.2 rfl
          have ne : q.1 = n := by
            by_cases z2 : q.1 = n
            · exact z2
            · have hc : (Sc.set q.1 q.2)[n]? = some c := hc
              rw [List.getElem?_set_ne z2] at hc
              exact absurd ⟨c, hc, hcd⟩ hn
          obtain ⟨v, hv⟩ := s1.there ⟨q.2, h1, h2⟩
          have hl : q.1 < S1.length := (List.getElem?_eq_some_iff.mp h1).1
          rw [← ne, x6.al q.1 hl] at z
          rw [z, hd0] at hv
          cases hv
    exact fin_made (cell := cell) p1 x6 s6 hd0 o6 hd2 (by
      have : (unlock Sc lk).length = Sc.length := by cases lk <;> simp [unlock]
      rw [this]; exact r2)

theorem de_lc {iter elt : Expr} {ifs : List Expr} {scope : Scope} {own : List (Str × Nat)} {cell : Bool} {t : Tg} {fi : Env → Sto → Res (List Vl × Option (Nat × Cell))} {fcond : Env → Sto → Res Bool} {fe : Env → Sto → Res Vl}
    (hc : X.calm = true) (hN : X.N.Nodup) (hi : PI X tg iter (tDI W E fi)) (ok : BlkOk X.N X.env.scope scope own)
    (hg : ∀ (s : Shared) (H : Hp) (C : Addr) (cl : List (Str × Addr)) (fp : List Addr), PG (X.blk s H scope (compEnvC scope cl C X.env) fp) tg (gD W t))
    (ht : ∀ (s : Shared) (H : Hp) (C : Addr) (cl : List (Str × Addr)) (fp : List Addr), PTs (X.blk s H scope (compEnvC scope cl C X.env) fp) ifs (tDT W E0 fcond))
    (he : ∀ (s : Shared) (H : Hp) (C : Addr) (cl : List (Str × Addr)) (fp : List Addr), PE (X.blk s H scope (compEnvC scope cl C X.env) fp) elt (tD W E0 fe))
    (hs : ∀ x, foldedSetIterable iter X.env x = pure x) (hsub : ∀ i ∈ t.slots, i ∈ own.map (·.2)) :
    PE X (.ListComp elt [⟨tg, iter, ifs, 0⟩] scope pos) (tD W E (lcAll cell t (own.map (·.2)) fi fcond fe)) :=
  peI (pe_lc hc hN hi ok hg ht he hs) fun σ H Q h => lc_read hsub h

/-! ### dict comprehensions, set comprehensions -/
def cF {B : Type} (fcond : Env → Sto → Res Bool) (fe : Env → Sto → Res B) : Env → Sto → Res (Option B) := fun ρ S => (fcond ρ S).bind fun b S => if b then (fe ρ S).bind fun y S => .ok (some y) S else .ok none S
/-- the loop of a comprehension, whatever it puts its things into: OR tells how that lies in the heap -/
theorem comp_loop {A B : Type} {put : A → B → Option A} {OR : (Nat → Addr) → Hp → Nat → A → HO → Prop} (mono : ∀ {α F S H α' F' S' H' acc o}, Ext α F S H α' F' S' H' → OR α F S.length acc o → OR α' F' S'.length acc o)
    {own : List (Str × Nat)} {t : Tg} {fcond : Env → Sto → Res Bool} {fe : Env → Sto → Res B} (hsub : ∀ i ∈ t.slots, i ∈ own.map (·.2)) {ρ : Env} {σ : L2.St} {d0 : Addr} {xs : List Vl} {lk : Option (Nat × Cell)} {J : It} {a0 : A} {o0 : HO} {H1 : Hp} {elt : L2.St → Hp → (Hp → Prop) → Prop} {α1 : Nat → Addr} {F1 : Hp} {S1 : Sto} {K : A → Sto → Res Vl} {Qf : Hp → Prop} {Q : VK}
    (s1 : Sr W α1 F1 S1 H1) (er : EnvR W α1 F1 S1.length ρ σ) (wk : Walk W J xs α1 F1 (lock S1 lk) H1) (lkok : ∀ n c, lk = some (n, c) → S1[n]? = some c ∧ c ≠ .dead) (hd0 : H1 d0 = none) (h0 : OR α1 F1 (lock S1 lk).length a0 o0)
    (p1 : Post W E (VlX W) α1 F1 S1 H1 ((turnsG put (cF fcond fe) t (Z.wipe ρ (own.map (·.2))) xs a0 (lock S1 lk)).bind K) Q)
    (hE : ∀ {σ2 H3 Nx αc Fc ρ' S3 acc acc' y S4}, Sr W αc Fc S3 H3 → EnvR W αc Fc S3.length ρ' σ2 → fe ρ' S3 = .ok y S4 → put acc y = some acc' →
      (∀ α5 F5 H5, Ext αc Fc S3 H3 α5 F5 S4 H5 → Sr W α5 F5 S4 H5 → ∃ o, H5 d0 = some o ∧ OR α5 F5 S4.length acc o ∧ ∀ o', OR α5 F5 S4.length acc' o' → Nx (upd H5 d0 o')) → elt σ2 H3 Nx)
    (hQ : ∀ {αc Fc Sc H' acc o}, Ext α1 F1 S1 H1 αc Fc (unlock Sc lk) H' → Sr W αc Fc (unlock Sc lk) H' → Oth αc Fc (unlock Sc lk) d0 → H' d0 = some o → OR αc Fc (unlock Sc lk).length acc o → Post W E (VlX W) α1 F1 S1 H1 (K acc Sc) Q → Qf H') :
    ∃ Winv : Nat → Nat → Hp → Prop, (∃ m, Winv 0 m (upd H1 d0 o0)) ∧ ∀ i m H, Winv i m H → (J.stop i H ∧ Qf H) ∨ (J.go i H ∧ ∃ Nx : Hp → Prop, (∀ H', Nx H' → ∃ m', m' < m ∧ Winv (i + 1) m' H') ∧
      ∀ x H', J.yld i H x H' → gD W t x (L2.wipe σ (own.map (·.2))) H' fun σ2 H2 => L2.wipe σ2 (own.map (·.2)) = L2.wipe σ (own.map (·.2)) ∧ tDT W E0 fcond σ2 H2 fun b H3 => if b = true then elt σ2 H3 Nx else Nx H3) := by
  have s1l : Sr W α1 F1 (lock S1 lk) H1 := lock_sr s1 fun n c h => (lkok n c h).1
  have e1 : EnvR W α1 F1 (lock S1 lk).length ρ σ := by rw [lock_len]; exact er
  generalize hfull : turnsG put (cF fcond fe) t (Z.wipe ρ (own.map (·.2))) xs a0 (lock S1 lk) = full at p1
  refine ⟨fun i m H' => m = xs.length - i ∧ i ≤ xs.length ∧ ∃ αc Fc Sc acc o, Ext α1 F1 (lock S1 lk) H1 αc Fc Sc H' ∧ Sr W αc Fc Sc H' ∧ Oth αc Fc Sc d0 ∧ H' d0 = some o ∧ OR αc Fc Sc.length acc o ∧
    turnsG put (cF fcond fe) t (Z.wipe ρ (own.map (·.2))) (xs.drop i) acc Sc = full, ⟨xs.length, rfl, Nat.zero_le _, α1, F1, lock S1 lk, a0, o0, Ext.refl.oth hd0, s1l.oth (s1l.oth0 hd0), s1l.oth0 hd0, upd_same, h0, hfull⟩, ?_⟩
  rintro i m H' ⟨rfl, hi', αc, Fc, Sc, acc, o, x2, s2, o2, hd2, r2, hf2⟩
  by_cases hlt : i < xs.length
  · have hx : xs[i]? = some xs[i] := List.getElem?_eq_getElem hlt
    obtain ⟨go, yl⟩ := wk.turn i xs[i] hx αc Fc Sc H' x2 s2
    rw [List.drop_eq_getElem_cons hlt] at hf2
    unfold turnsG at hf2
    refine .inr ⟨go, fun H'' => xs.length - (i + 1) = xs.length - (i + 1) ∧ i + 1 ≤ xs.length ∧ ∃ αc Fc Sc acc o, Ext α1 F1 (lock S1 lk) H1 αc Fc Sc H'' ∧ Sr W αc Fc Sc H'' ∧ Oth αc Fc Sc d0 ∧ H'' d0 = some o ∧ OR αc Fc Sc.length acc o ∧
      turnsG put (cF fcond fe) t (Z.wipe ρ (own.map (·.2))) (xs.drop (i + 1)) acc Sc = full, fun H'' w => ⟨_, by omega, w⟩, fun v H2 y => ?_⟩
    obtain ⟨F2, x3, s3, r3⟩ := yl v H2 y
    have e3 := e1.ext (x2.trans x3)
    cases hb : bindT t xs[i] (Z.wipe ρ (own.map (·.2))) with
    | none =>
      rw [hb] at hf2
      rw [← hf2] at p1
      exact p1.elim
    | some ρ' =>
      rw [hb] at hf2
      simp only at hf2
      refine ⟨αc, F2, Sc, xs[i], Z.wipe ρ (own.map (·.2)), ρ', s3, e3.wipe _, r3, hb, fun σ' st => ⟨wipe_stored st hsub, αc, F2, ρ', Sc, s3, st.env, ?_⟩⟩
      have nope : (∀ o S', cF fcond fe ρ' Sc ≠ .ok o S') → False := fun hno => by
        cases hq : cF fcond fe ρ' Sc with
        | ok o S' => exact hno o S' hq
        | exc ee S' => rw [hq] at hf2; rw [← hf2] at p1; exact p1.elim
        | bad => rw [hq] at hf2; rw [← hf2] at p1; exact p1.elim
      cases hcd : fcond ρ' Sc with
      | bad => exact (nope fun o S' z => by simp [cF, hcd, Res.bind] at z).elim
      | exc ee S' => exact (nope fun o S' z => by simp [cF, hcd, Res.bind] at z).elim
      | ok b S3 =>
        intro b' α4 F4 H4 x4 s4 eb
        cases (show b = b' from eb)
        have x34 := x3.trans x4
        cases b with
        | false =>
          have hq : cF fcond fe ρ' Sc = .ok none S3 := by simp [cF, hcd, Res.bind]
          rw [hq] at hf2
          simp only at hf2
          rw [if_neg Bool.false_ne_true]
          obtain ⟨o4, hd4⟩ := o2.ext x34 hd2
          exact ⟨rfl, hlt, α4, F4, S3, acc, o, x2.trans x34, s4, o4, hd4, mono x34 r2, hf2⟩
        | true =>
          rw [if_pos rfl]
          cases hfe : fe ρ' S3 with
          | bad => exact (nope fun o S' z => by simp [cF, hcd, hfe, Res.bind] at z).elim
          | exc ee S' => exact (nope fun o S' z => by simp [cF, hcd, hfe, Res.bind] at z).elim
          | ok y S4 =>
            have hq : cF fcond fe ρ' Sc = .ok (some y) S4 := by simp [cF, hcd, hfe, Res.bind]
            rw [hq] at hf2
            simp only at hf2
            cases hp : put acc y with
            | none => rw [hp] at hf2; rw [← hf2] at p1; exact p1.elim
            | some acc' =>
              rw [hp] at hf2
              simp only at hf2
              refine hE s4 (st.env.ext x4) hfe hp fun α5 F5 H5 x5 s5 => ?_
              have x35 := x34.trans x5
              obtain ⟨o5, hd5⟩ := o2.ext x35 hd2
              exact ⟨o, hd5, mono x35 r2, fun o' r' => ⟨rfl, hlt, α5, F5, S4, acc', o', (x2.trans x35).oth hd0, s5.oth o5, o5, upd_same, r', hf2⟩⟩
  · have hi2 : i = xs.length := by omega
    subst hi2
    rw [List.drop_length] at hf2
    unfold turnsG at hf2
    rw [← hf2] at p1
    refine .inl ⟨wk.done αc Fc Sc H' x2 s2, ?_⟩
    obtain ⟨s6, x6⟩ := unlock_opt s1 lkok x2 s2
    have o6 : Oth αc Fc (unlock Sc lk) d0 := by
      refine ⟨o2.f, fun n l z => ?_⟩
      obtain ⟨c, hc, hcd⟩ := l
      obtain ⟨u, hu⟩ := s6.there ⟨c, hc, hcd⟩
      by_cases hn : Live Sc n
      · exact o2.c n hn z
      · cases lk with
        | none => exact hn ⟨c, hc, hcd⟩
        | some q =>
          obtain ⟨h1, h2⟩ := lkok q.1 q.2 rfl
          have ne : q.1 = n := by
            by_cases z2 : q.1 = n
            · exact z2
            · have hc : (Sc.set q.1 q.2)[n]? = some c := hc
              rw [List.getElem?_set_ne z2] at hc
              exact absurd ⟨c, hc, hcd⟩ hn
          obtain ⟨v, hv⟩ := s1.there ⟨q.2, h1, h2⟩
          have hl : q.1 < S1.length := (List.getElem?_eq_some_iff.mp h1).1
          rw [← ne, x6.al q.1 hl] at z
          rw [z, hd0] at hv
          cases hv
    refine hQ x6 s6 o6 hd2 ?_ p1
    have : (unlock Sc lk).length = Sc.length := by cases lk <;> simp [unlock]
    rw [this]; exact r2
/-- the dict that was made becomes the answer -/
theorem fin_dct {cell t : Bool} {α0 : Nat → Addr} {F0 : Hp} {S0 : Sto} {H0 : Hp} {d0 : Addr} {kvs : List (D × Vl)} {ws : List V} (p : Post W E (VlX W) α0 F0 S0 H0 (newDct t cell kvs S) Q) (x : Ext α0 F0 S0 H0 α F S H) (s : Sr W α F S H) (hd : H0 d0 = none) (o : Oth α F S d0)
    (h : DctR H d0 t (kvs.map (·.1)) ws) (r : VlRs W α F S.length (kvs.map (·.2)) ws) : Q (.ref d0) H := by
  obtain ⟨u, hu, go⟩ := h.at
  unfold newDct at p
  split at p
  · refine p _ _ _ _ (x.adoptC hd) (s.adoptC o hu (c := .dct t kvs) ⟨ws, h, r.mono (fun n hn => adr_ne (Nat.ne_of_lt hn)) (Nat.le_succ _) (Sub.refl F)⟩) ⟨by rw [adr_same], by simp⟩
  · split at p
    · rename_i ds hp
      exact p _ _ _ _ (x.adoptF hd o.f) (s.adoptF o hu) ⟨d0, ws, rfl, go _ upd_same, Rps.mono (fun a v q => by rw [upd_ne (ne_of_none q o.f)]; exact q) (r.pures hp)⟩
    · exact p.elim
/-- a dict of ints and texts in the heap -/
def OrD (W : Wd) (α : Nat → Addr) (F : Hp) (N : Nat) (acc : List (D × Vl)) (o : HO) : Prop := ∃ (kk : List Key) (ws : List V), (acc.map (·.1)).map keyK = kk.map some ∧ kk.length = ws.length ∧ o = .dK (kk.zip ws) ∧ VlRs W α F N (acc.map (·.2)) ws
theorem OrD.put {N : Nat} {acc : List (D × Vl)} {k : D} {x : Vl} {u w : V} {kvs : List (Key × V)} (r : OrD W α F N acc (.dK kvs)) (hk : keyOk false k = true) (rk : Rp W F k u) (rx : VlR W α F N x w) : ∃ c, u = kV c ∧ OrD W α F N (kvPut acc k x) (.dK (putK kvs c w)) := by
  obtain ⟨c, hc⟩ : ∃ c, keyK k = some c := by cases k <;> simp [keyOk] at hk <;> exact ⟨_, rfl⟩
  obtain ⟨kk, ws, h1, h2, e, h3⟩ := r
  cases e
  obtain ⟨kk', ws', e1, e2, e3, e4⟩ := put_rel (fun h1 h2 => eqv_keyK h1 h2) hc rx h1 h2 h3
  exact ⟨c, key_flat hc rk, kk', ws', e2, e3, by rw [e1], e4⟩
def dcAll (cell : Bool) (t : Tg) (own : List Nat) (fi : Env → Sto → Res (List Vl × Option (Nat × Cell))) (fcond : Env → Sto → Res Bool) (fk fv : Env → Sto → Res Vl) : Env → Sto → Res Vl := fun ρ S =>
  (fi ρ S).bind fun q S => (turnsG putD (cF fcond fun ρ S => (fk ρ S).bind fun y S => (fv ρ S).bind fun z S => keyVal y z S) t (Z.wipe ρ own) q.1 [] (lock S q.2)).bind fun ys S => newDct false cell ys (unlock S q.2)
theorem dc_read {own : List (Str × Nat)} {cell : Bool} {t : Tg} {fi : Env → Sto → Res (List Vl × Option (Nat × Cell))} {fcond : Env → Sto → Res Bool} {fk fv : Env → Sto → Res Vl} (hsub : ∀ i ∈ t.slots, i ∈ own.map (·.2))
    {σ : L2.St} {H : Hp} {Q : VK} (h : tD W E (dcAll cell t (own.map (·.2)) fi fcond fk fv) σ H Q) : tDc (tDI W E fi) (gD W t) (tDT W E0 fcond) (tD W E0 fk) (tD W E0 fv) (own.map (·.2)) σ H Q := by
  obtain ⟨α, F, ρ, S, s, er, p⟩ := h
  refine ⟨α, F, ρ, S, s, er, (Post.bind (Rel := WalkR W) p).imp fun J H1 ⟨α1, F1, q, S1, x1, s1, ⟨wk, lkok⟩, p1⟩ => ?_⟩
  intro d0 hd0
  refine comp_loop (put := putD) (OR := OrD W) (elt := fun σ2 H3 Nx => tD W E0 fk σ2 H3 fun y H4 => tD W E0 fv σ2 H4 fun z H5 => ∃ kvs k, y = kV k ∧ H5 d0 = some (.dK kvs) ∧ kvs.length < sizeLine ∧ Nx (upd H5 d0 (.dK (putK kvs k z)))) (Qf := fun H => Q (.ref d0) H)
    (fun x ⟨kk, ws, h1, h2, h3, h4⟩ => ⟨kk, ws, h1, h2, h3, h4.ext x⟩) hsub s1 (er.ext x1) wk lkok hd0 ⟨[], [], rfl, rfl, rfl, .nil⟩ p1 ?_ ?_
  · intro σ2 H3 Nx αc Fc ρ' S3 acc acc' y S4 s3 e3 hfe hp k
    refine ⟨αc, Fc, ρ', S3, s3, e3, ?_⟩
    cases h1 : fk ρ' S3 with
    | bad => rw [h1] at hfe; cases hfe
    | exc ee S' => rw [h1] at hfe; cases hfe
    | ok yk S5 =>
      rw [h1] at hfe
      simp only [Res.bind] at hfe
      intro u α4 F4 H4 x4 s4 r4
      refine ⟨α4, F4, ρ', S5, s4, e3.ext x4, ?_⟩
      cases h2 : fv ρ' S5 with
      | bad => rw [h2] at hfe; cases hfe
      | exc ee S' => rw [h2] at hfe; cases hfe
      | ok yv S6 =>
        rw [h2] at hfe
        intro w α5 F5 H5 x5 s5 r5
        have r4 := r4.ext x5
        cases yk with
        | p n => cases hfe
        | d kd =>
          cases hfe
          obtain ⟨o, ho, ro, nx⟩ := k α5 F5 H5 (x4.trans x5) s5
          unfold putD at hp
          split at hp
          · rename_i hz
            rw [Bool.and_eq_true] at hz
            cases hp
            obtain ⟨kk, ws, q1, q2, rfl, q4⟩ := ro
            obtain ⟨c, ec, rc⟩ := OrD.put ⟨kk, ws, q1, q2, rfl, q4⟩ hz.1 r4 r5
            exact ⟨_, c, ec, ho, by rw [dct_len q1 q2, ← most_eq]; exact of_decide_eq_true hz.2, nx _ rc⟩
          · cases hp
  · intro αc Fc Sc H' acc o x6 s6 o6 ho ⟨kk, ws, q1, q2, e, q4⟩ p6
    subst e
    exact fin_dct p6 x6 s6 hd0 o6 (.inl ⟨rfl, kk, q1, q2, ho⟩) q4
theorem de_dc {iter ke ve : Expr} {ifs : List Expr} {scope : Scope} {own : List (Str × Nat)} {cell : Bool} {t : Tg} {fi : Env → Sto → Res (List Vl × Option (Nat × Cell))} {fcond : Env → Sto → Res Bool} {fk fv : Env → Sto → Res Vl}
    (hc : X.calm = true) (hN : X.N.Nodup) (hi : PI X tg iter (tDI W E fi)) (ok : BlkOk X.N X.env.scope scope own)
    (hg : ∀ (s : Shared) (H : Hp) (C : Addr) (cl : List (Str × Addr)) (fp : List Addr), PG (X.blk s H scope (compEnvC scope cl C X.env) fp) tg (gD W t))
    (ht : ∀ (s : Shared) (H : Hp) (C : Addr) (cl : List (Str × Addr)) (fp : List Addr), PTs (X.blk s H scope (compEnvC scope cl C X.env) fp) ifs (tDT W E0 fcond))
    (hk : ∀ (s : Shared) (H : Hp) (C : Addr) (cl : List (Str × Addr)) (fp : List Addr), PE (X.blk s H scope (compEnvC scope cl C X.env) fp) ke (tD W E0 fk))
    (hv : ∀ (s : Shared) (H : Hp) (C : Addr) (cl : List (Str × Addr)) (fp : List Addr), PE (X.blk s H scope (compEnvC scope cl C X.env) fp) ve (tD W E0 fv))
    (hs : ∀ x, foldedSetIterable iter X.env x = pure x) (hsub : ∀ i ∈ t.slots, i ∈ own.map (·.2)) :
    PE X (.DictComp ke ve [⟨tg, iter, ifs, 0⟩] scope pos) (tD W E (dcAll cell t (own.map (·.2)) fi fcond fk fv)) :=
  peI (pe_dc hc hN hi ok hg ht hk hv hs) fun σ H Q h => dc_read hsub h

/-- {e for ..} of ints: what its reading asks -/
def tSi (w : World) (wi : TI) (g : TG) (tt : TT) (te : TE) (vs : List Nat) : TE := fun σ H Q => wi σ H fun J H1 => ∀ d0, H1 d0 = none → ∃ Wn : Nat → Nat → Hp → Prop, (∃ m, Wn 0 m (upd H1 d0 (SetO w d0 (fun _ => false) 0))) ∧ ∀ i m H, Wn i m H →
  (J.stop i H ∧ Q (.ref d0) H) ∨ (J.go i H ∧ ∃ Nx : Hp → Prop, (∀ H', Nx H' → ∃ m', m' < m ∧ Wn (i + 1) m' H') ∧ ∀ x H', J.yld i H x H' → g x (L2.wipe σ vs) H' fun σ2 H2 => L2.wipe σ2 vs = L2.wipe σ vs ∧ tt σ2 H2 fun b H3 =>
    if b = true then te σ2 H3 fun y H4 => ∃ (c : Int) (M : Int → Bool) (n : Nat), y = .int c ∧ H4 d0 = some (SetO w d0 M n) ∧ n + 1 < scanBound ∧ Nx (upd H4 d0 (SetO w d0 (fun j => M j || decide (j = c)) (if M c = true then n else n + 1))) else Nx H3)
/-- a member comes to a set -/
theorem set_add_int {E' : Value → Shared → Prop} {pins : List (Addr × Obj)} {σ : L2.St} {s : Shared} {d0 : Addr} {M : Int → Bool} {n : Nat} {c : Int} {tk : Tok} {R : Value → Shared → Prop} (I : Inv X pins σ H s) (hd : H d0 = some (SetO X.w d0 M n)) (room : n + 1 < scanBound)
    (k : ∀ s', Inv X pins σ (upd H d0 (SetO X.w d0 (fun j => M j || decide (j = c)) (if M c = true then n else n + 1))) s' → R .none s') : wpAny (model X.prog X.w) X.A (call (.builtin "set.add") [.ref d0, .int c tk]) R E' s :=
  setR_add (setO_get I hd) room fun h2 same new2 => k _ (I.write (e := d0) (t' := s.toks + 1) (by rw [hd]; trivial) (.inl rfl) (fun b u nb q => (same.2 b nb).trans q) (by obtain ⟨ob, _, _, _, q, _⟩ := new2; exact ⟨ob, q⟩) (setO_new new2))
theorem pe_si {elt iter : Expr} {ifs : List Expr} {scope : Scope} {own : List (Str × Nat)} {wi : TI} {g : TG} {tt : TT} {te : TE} (calm : X.calm = true) (nd : X.N.Nodup) (walked : PI X tg iter wi) (ok : BlkOk X.N X.env.scope scope own)
    (hg : ∀ (s : Shared) (H : Hp) (C : Addr) (cl : List (Str × Addr)) (fp : List Addr), PG (X.blk s H scope (compEnvC scope cl C X.env) fp) tg g)
    (ht : ∀ (s : Shared) (H : Hp) (C : Addr) (cl : List (Str × Addr)) (fp : List Addr), PTs (X.blk s H scope (compEnvC scope cl C X.env) fp) ifs tt)
    (he : ∀ (s : Shared) (H : Hp) (C : Addr) (cl : List (Str × Addr)) (fp : List Addr), PE (X.blk s H scope (compEnvC scope cl C X.env) fp) elt te) (hs : ∀ x, foldedSetIterable iter X.env x = pure x) :
    PE X (.SetComp elt [⟨tg, iter, ifs, 0⟩] scope pos) (tSi X.w wi g tt te (own.map (·.2))) := by
  refine ⟨fun pins s0 σ H Q I0 asked => ?_⟩
  rw [PpSet.eval_SetComp]
  have names : ∀ y ∈ scope.names, y.2 = .free → ∃ c, X.env.cells.lookup y.1 = some c := fun y hy e => I0.ok.has _ (ok.free y hy e)
  refine wpAny_comprehension_free (use := none) rfl hs (closure_ok names) ok.kind (fun y hy e => by rw [ok.uniq y hy, e]) (thn (walked.run pins s0 σ H _ I0 asked) fun xv sa ha => thn ha fun itv sb hb => ?_)
  obtain ⟨it, fp, At, J, Ha, rfl, Ia, Tn, here, apart, q⟩ := hb
  refine PpSet.newSet_ok (newEnv_comp ?_)
  generalize hD : sb.heap.objs.size = D
  obtain ⟨Wn, ⟨m0, w0⟩, turn⟩ := q D (Ia.hok.fresh (Nat.le_of_eq hD))
  generalize hsc : ({ sb with heap := sb.heap.push { cls := .type "set", dict := none, data := .set #[] 0 (.fresh 0 0 (!X.w.params.followText "set-order")) } } : Shared) = sc
  have hheap : sc.heap = sb.heap.push { cls := .type "set", dict := none, data := .set #[] 0 (.fresh 0 0 (!X.w.params.followText "set-order")) } := by rw [← hsc]
  have Ic : Inv X pins σ (upd Ha D (SetO X.w D (fun _ => false) 0)) sc := by
    subst hsc hD
    exact Ia.laid (t' := sb.toks) (fun b o e => Heap.get?_push_of_some _ e) (Nat.le_refl _) (setO_new (setR_fresh X.w))
  have small : ∀ b ∈ fp, b < sb.heap.objs.size := fun b hb => by
    obtain ⟨o, e, _⟩ := Tn.obj _ _ here b hb
    exact Heap.lt_size e
  have free : ∀ b ∈ fp, FpOk X pins (upd Ha D (SetO X.w D (fun _ => false) 0)) b ∧ b < sc.heap.objs.size := fun b hb => by
    refine ⟨⟨?_, (apart b hb).2⟩, by rw [hheap, Heap.size_push]; exact Nat.lt_succ_of_lt (small b hb)⟩
    rw [upd_ne (by rw [← hD]; exact Nat.ne_of_lt (small b hb))]
    exact (apart b hb).1
  have here1 : At 0 sc.heap := Tn.keep _ _ _ here fun b _ o e => by rw [hheap]; exact Heap.get?_push_of_some _ e
  have Id := block_start Ic ok nd free
  generalize hHc : upd Ha D (SetO X.w D (fun _ => false) 0) = Hc at Ic Id w0 free
  have pg := hg sc Hc sc.heap.objs.size (cellsFrom (sc.heap.objs.size + 1) scope.names (cloFrom X.env.cells scope.names [])) fp
  have pt := ht sc Hc sc.heap.objs.size (cellsFrom (sc.heap.objs.size + 1) scope.names (cloFrom X.env.cells scope.names [])) fp
  have pe := he sc Hc sc.heap.objs.size (cellsFrom (sc.heap.objs.size + 1) scope.names (cloFrom X.env.cells scope.names [])) fp
  show codeAny _ _ (.compStart (.SetComp elt [⟨tg, iter, ifs, 0⟩] scope pos) 0 (.ref it) (.ref D) (compEnvC scope (cellsFrom (sc.heap.objs.size + 1) scope.names (cloFrom X.env.cells scope.names [])) sc.heap.objs.size X.env))
    (compPost (model X.prog X.w) X.A X.xe none (EP X pins σ Q) (.ref D) sc.heap.objs.size) { sc with heap := pushCells (sc.heap.push { cls := .type "dict", data := .dict #[] }) scope.names }
  generalize hce : compEnvC scope (cellsFrom (sc.heap.objs.size + 1) scope.names (cloFrom X.env.cells scope.names [])) sc.heap.objs.size X.env = ce at Id pg pt pe ⊢
  have locals : ce.locals = sc.heap.objs.size := by subst hce; rfl
  generalize hsd : ({ sc with heap := pushCells (sc.heap.push { cls := .type "dict", data := .dict #[] }) scope.names } : Shared) = sd at Id ⊢
  have here2 : At 0 sd.heap := Tn.keep _ _ _ here1 fun b _ o e => by
    rw [← hsd]
    exact pushCells_keeps _ _ _ _ (Heap.get?_push_of_some _ e)
  have ours : ∀ {σ' : L2.St} {H' : Hp} {s' : Shared}, Inv (X.blk sc Hc scope ce fp) [] σ' H' s' → (∀ b ∈ fp, H' b = none) → ∀ b ∈ fp, FpOk (X.blk sc Hc scope ce fp) [] H' b := fun {σ' H' s'} J' none' b hb =>
    ⟨none' b hb, (J'.ok.exf b hb).1, J'.ok.exfs b hb, .inl hb, fun x c e => (J'.ok.exf b hb).2 x c e, fun p hp => by cases hp⟩
  have loop : codeAny (model X.prog X.w) X.A (.compLoop (.SetComp elt [⟨tg, iter, ifs, 0⟩] scope pos) 0 (.ref it) (.ref D) ce) (compPost (model X.prog X.w) X.A X.xe none (EP X pins σ Q) (.ref D) sc.heap.objs.size) sd := by
    refine PpSet.compLoopS_any (fun n s' => ∃ i H', Inv (X.blk sc Hc scope ce fp) [] (L2.wipe σ (own.map (·.2))) H' s' ∧ At i s'.heap ∧ (∀ b ∈ fp, H' b = none) ∧ Wn i n H') ?_ m0 ⟨0, Hc, Id, here2, fun b hb => (free b hb).1.1, w0⟩
    rintro n se ⟨i, He, Ie, ate, nne, we⟩
    rcases turn i n He we with ⟨stop, fin⟩ | ⟨go, Nx, less, step⟩
    · refine thnF (Tn.done (X.blk sc Hc scope ce fp) rfl rfl rfl calm i [] se _ He (fun _ _ => False) Ie (ours Ie nne) ate stop) fun r sf ⟨hr, If⟩ => ?_
      subst hr
      have Ig : Inv X pins σ He sf := Ic.call' (ch := fp) If.os If.base If.hok If.bare fun b hb => ⟨(free b hb).1.2.2.2.1, (free b hb).1.2.1, (free b hb).1.2.2.2.2.1, (free b hb).1.2.2.2.2.2⟩
      have away : He sc.heap.objs.size = none := by rw [← locals]; exact If.free
      obtain ⟨m, ns, _⟩ := If.loc
      have ns : sf.heap.Ns ce.locals m := ns
      rw [locals] at ns
      obtain ⟨g0, g1, g2, g3, g4, g5⟩ := Ic.fpOk (Nat.le_refl _) away
      exact ⟨m, ns, fun h'' same => ⟨.ref D, He, Ig.turned (t' := sf.toks) (fun b o nb e => (same.2 b nb).trans e) g0 g1 g3 g4 g5, rfl, fin⟩⟩
    · refine thnF (Tn.item (X.blk sc Hc scope ce fp) rfl rfl rfl calm i [] se _ He (fun _ _ => False) Ie (ours Ie nne) ate go) fun r sf ⟨u, hr, got⟩ => ?_
      subst hr
      refine thnF got fun _ sg ⟨x, Hg, Ig, rg, yg, atg, nng⟩ => ?_
      have Ig' := Ig.pinned (ours Ig nng) (Tn.obj _ _ atg)
      refine thnF (pg.run _ sg _ Hg x u _ Ig' rg (step x Hg yg)) fun _ sh ⟨σh, Hh, Ih, wiped, qh⟩ => ?_
      refine thnF (pt.run _ sh σh Hh _ Ih qh) fun b si ⟨Hi, Ii, qi⟩ => ?_
      have again : ∀ {s' : Shared} {H' : Hp}, Inv (X.blk sc Hc scope ce fp) ([] ++ pinsAt fp sg.heap) σh H' s' → Nx H' → ∃ m, m < n ∧ ∃ i H', Inv (X.blk sc Hc scope ce fp) [] (L2.wipe σ (own.map (·.2))) H' s' ∧ At i s'.heap ∧ (∀ b ∈ fp, H' b = none) ∧ Wn i m H' := fun {s' H'} J' nx => by
        obtain ⟨m', hm, w'⟩ := less H' nx
        have pinned : ∀ b ∈ fp, ∀ o, sg.heap.get? b = some o → s'.heap.get? b = some o ∧ H' b = none := fun b hb o e => by
          have z := J'.pin (b, o) (List.mem_append_right _ (List.mem_append_right _ (mem_pinsAt hb e)))
          exact ⟨z.1, z.2.1⟩
        refine ⟨m', hm, i + 1, H', (J'.unpinned (pins := [])).weak (by rw [← wiped, L2.wipe_length]) (fun j v e => ?_), Tn.keep _ _ _ atg fun b hb o e => (pinned b hb o e).1, fun b hb => ?_, w'⟩
        · rw [← wiped] at e
          exact (L2.wipe_some e).1
        · obtain ⟨o, e, _⟩ := Tn.obj _ _ atg b hb
          exact (pinned b hb o e).2
      cases b with
      | false => exact again Ii qi
      | true =>
        refine thnF (pe.run _ si σh Hi _ Ii qi) fun z sj ⟨yv, Hj, Ij, rj, c, M, n0, ey, hDj, hz, nx⟩ => ?_
        subst ey
        obtain ⟨tk, rfl⟩ := (show ∃ tk, z = Value.int c tk from rj)
        exact set_add_int (X := X.blk sc Hc scope ce fp) Ij hDj hz fun sk Ik => again Ik nx
  exact PpSet.codeAny_compStart_set loop (Tn.self X.A 0 _ _ _ here2 loop)

theorem sins_mem {x k : Int} : ∀ {l : List Int}, k ∈ sins x l ↔ k = x ∨ k ∈ l
  | [] => by simp [sins]
  | y :: l => by
    unfold sins
    split
    · simp
    · split
      · rename_i h; subst h; simp
      · rw [List.mem_cons, sins_mem, List.mem_cons]
        constructor
        · rintro (h | h | h)
          · exact .inr (.inl h)
          · exact .inl h
          · exact .inr (.inr h)
        · rintro (h | h | h)
          · exact .inr (.inl h)
          · exact .inl h
          · exact .inr (.inr h)
theorem sins_sorted {x : Int} : ∀ {l : List Int}, l.Pairwise (· < ·) → (sins x l).Pairwise (· < ·)
  | [], _ => by simp [sins]
  | y :: l, h => by
    have h' := List.pairwise_cons.mp h
    unfold sins
    split
    · rename_i hlt
      refine List.pairwise_cons.mpr ⟨fun z hz => ?_, h⟩
      rcases List.mem_cons.mp hz with rfl | hz
      · exact hlt
      · exact Int.lt_trans hlt (h'.1 z hz)
    · split
      · exact h
      · rename_i h1 h2
        refine List.pairwise_cons.mpr ⟨fun z hz => ?_, sins_sorted h'.2⟩
        rcases sins_mem.mp hz with rfl | hz
        · omega
        · exact h'.1 z hz
theorem sins_length {x : Int} : ∀ {l : List Int}, l.Pairwise (· < ·) → (sins x l).length = if x ∈ l then l.length else l.length + 1
  | [], _ => by simp [sins]
  | y :: l, h => by
    have h' := List.pairwise_cons.mp h
    unfold sins
    split
    · rename_i hlt
      have : x ∉ y :: l := fun hz => by
        rcases List.mem_cons.mp hz with rfl | hz
        · omega
        · have := h'.1 x hz; omega
      rw [if_neg this]; simp
    · split
      · rename_i e; subst e; simp
      · rename_i h1 h2
        rw [List.length_cons, sins_length h'.2]
        have : (x ∈ y :: l) ↔ x ∈ l := by rw [List.mem_cons]; exact ⟨fun z => z.resolve_left h2, .inr⟩
        by_cases hx : x ∈ l
        · rw [if_pos hx, if_pos (this.mpr hx)]; simp
        · rw [if_neg hx, if_neg fun z => hx (this.mp z)]; simp
theorem sorted_same : ∀ {l m : List Int}, l.Pairwise (· < ·) → m.Pairwise (· < ·) → (∀ k, k ∈ l ↔ k ∈ m) → l = m
  | [], [], _, _, _ => rfl
  | [], y :: m, _, _, h => by have := (h y).mpr (by simp); simp at this
  | x :: l, [], _, _, h => by have := (h x).mp (by simp); simp at this
  | x :: l, y :: m, h1, h2, h => by
    have a1 := List.pairwise_cons.mp h1
    have a2 := List.pairwise_cons.mp h2
    have e : x = y := by
      have hx := (h x).mp (by simp)
      have hy := (h y).mpr (by simp)
      rcases List.mem_cons.mp hx with e | hx
      · exact e
      · rcases List.mem_cons.mp hy with e | hy
        · exact e.symm
        · have := a2.1 x hx; have := a1.1 y hy; omega
    subst e
    rw [sorted_same a1.2 a2.2 fun k => ?_]
    have hk := h k
    rw [List.mem_cons, List.mem_cons] at hk
    by_cases e : k = x
    · subst e
      exact ⟨fun z => absurd (a1.1 k z) (Int.lt_irrefl _), fun z => absurd (a2.1 k z) (Int.lt_irrefl _)⟩
    · exact ⟨fun z => (hk.mp (.inr z)).resolve_left e, fun z => (hk.mpr (.inr z)).resolve_left e⟩
/-- a set of ints in the heap -/
def OrI (w : World) (d0 : Addr) (acc : List Int) (o : HO) : Prop := acc.Pairwise (· < ·) ∧ acc.length ≤ 63 ∧ ∃ M : Int → Bool, (∀ k, k ∈ acc ↔ M k = true) ∧ o = SetO w d0 M acc.length
def scAll (cell : Bool) (t : Tg) (own : List Nat) (fi : Env → Sto → Res (List Vl × Option (Nat × Cell))) (fcond : Env → Sto → Res Bool) (fe : Env → Sto → Res Vl) : Env → Sto → Res Vl := fun ρ S =>
  (fi ρ S).bind fun q S => (turnsG putI (cF fcond fe) t (Z.wipe ρ own) q.1 [] (lock S q.2)).bind fun ys S => newList cell (ys.map fun i => .d (.int i)) (unlock S q.2)
theorem int_vls {N : Nat} : ∀ ns : List Int, VlRs W α F N (ns.map fun i => .d (.int i)) (ns.map V.int)
  | [] => .nil
  | n :: ns => .cons rfl (int_vls ns)
theorem sc_read {own : List (Str × Nat)} {cell : Bool} {t : Tg} {fi : Env → Sto → Res (List Vl × Option (Nat × Cell))} {fcond : Env → Sto → Res Bool} {fe : Env → Sto → Res Vl} (hsub : ∀ i ∈ t.slots, i ∈ own.map (·.2))
    {σ : L2.St} {H : Hp} {Q : VK} (h : tD W E (scAll cell t (own.map (·.2)) fi fcond fe) σ H Q) : tSi X.w (tDI W E fi) (gD W t) (tDT W E0 fcond) (tD W E0 fe) (own.map (·.2)) σ H fun v H' => rSortedSet X.w [v] H' Q := by
  obtain ⟨α, F, ρ, S, s, er, p⟩ := h
  refine ⟨α, F, ρ, S, s, er, (Post.bind (Rel := WalkR W) p).imp fun J H1 ⟨α1, F1, q, S1, x1, s1, ⟨wk, lkok⟩, p1⟩ => ?_⟩
  intro d0 hd0
  refine comp_loop (put := putI) (OR := fun _ _ _ => OrI X.w d0) (elt := fun σ2 H3 Nx => tD W E0 fe σ2 H3 fun y H4 => ∃ (c : Int) (M : Int → Bool) (n : Nat), y = .int c ∧ H4 d0 = some (SetO X.w d0 M n) ∧ n + 1 < scanBound ∧ Nx (upd H4 d0 (SetO X.w d0 (fun j => M j || decide (j = c)) (if M c = true then n else n + 1))))
    (Qf := fun H => rSortedSet X.w [.ref d0] H Q) (fun _ r => r) hsub s1 (er.ext x1) wk lkok hd0 ⟨List.Pairwise.nil, Nat.zero_le _, fun _ => false, by simp, rfl⟩ p1 ?_ ?_
  · intro σ2 H3 Nx αc Fc ρ' S3 acc acc' y S4 s3 e3 hfe hp k
    refine ⟨αc, Fc, ρ', S3, s3, e3, ?_⟩
    rw [hfe]
    intro u α4 F4 H4 x4 s4 r4
    obtain ⟨o, ho, ⟨h1, h2, M, hM, rfl⟩, nx⟩ := k α4 F4 H4 x4 s4
    unfold putI at hp
    split at hp
    · rename_i i
      split at hp
      · rename_i hz
        cases hp
        have hz := of_decide_eq_true hz
        refine ⟨i, M, acc.length, r4, ho, by unfold scanBound; omega, nx _ ⟨sins_sorted h1, ?_, fun j => M j || decide (j = i), fun j => ?_, ?_⟩⟩
        · rw [sins_length h1]; split <;> omega
        · rw [sins_mem, hM]; simp [or_comm]
        · rw [sins_length h1]
          by_cases hx : i ∈ acc
          · rw [if_pos hx, if_pos ((hM i).mp hx)]
          · rw [if_neg hx, if_neg fun z => hx ((hM i).mpr z)]
      · cases hp
    · cases hp
  · intro αc Fc Sc H' acc o x6 s6 o6 ho ⟨h1, h2, M, hM, e⟩ p6
    subst e
    refine ⟨d0, M, acc.length, rfl, ho, by omega, fun ns l hs hm hl hn => ?_⟩
    rw [sorted_same hs h1 fun k => (hm k).trans (hM k).symm]
    exact (fin_new (Post.rebase x6 p6) s6 (int_vls acc)).2 l hn
theorem boot_sorted' : bootBuiltins "sorted" = some (.builtin "sorted") := by decide +kernel
theorem de_sc {iter elt : Expr} {ifs : List Expr} {scope : Scope} {own : List (Str × Nat)} {cell : Bool} {t : Tg} {p1 p2 : Pos} {fi : Env → Sto → Res (List Vl × Option (Nat × Cell))} {fcond : Env → Sto → Res Bool} {fe : Env → Sto → Res Vl}
    (hc : X.calm = true) (hN : X.N.Nodup) (hgl : Gl X "sorted") (hm : X.mg "sorted" = none) (hi : PI X tg iter (tDI W E fi)) (ok : BlkOk X.N X.env.scope scope own)
    (hg : ∀ (s : Shared) (H : Hp) (C : Addr) (cl : List (Str × Addr)) (fp : List Addr), PG (X.blk s H scope (compEnvC scope cl C X.env) fp) tg (gD W t))
    (ht : ∀ (s : Shared) (H : Hp) (C : Addr) (cl : List (Str × Addr)) (fp : List Addr), PTs (X.blk s H scope (compEnvC scope cl C X.env) fp) ifs (tDT W E0 fcond))
    (he : ∀ (s : Shared) (H : Hp) (C : Addr) (cl : List (Str × Addr)) (fp : List Addr), PE (X.blk s H scope (compEnvC scope cl C X.env) fp) elt (tD W E0 fe))
    (hs : ∀ x, foldedSetIterable iter X.env x = pure x) (hsub : ∀ i ∈ t.slots, i ∈ own.map (·.2)) :
    PE X (.Call (.Name "sorted" p1) [.SetComp elt [⟨tg, iter, ifs, 0⟩] scope p2] [] pos) (tD W E (scAll cell t (own.map (·.2)) fi fcond fe)) :=
  peI (pe_callB (cr_sortedSet hc) hgl hm boot_sorted' (pa_cons (pe_si hc hN hi ok hg ht he hs) pa_nil)) fun σ H Q h => sc_read hsub h

/-! ### displays of dicts -/
def pairsV : List V → List (V × V)
  | k :: v :: r => (k, v) :: pairsV r
  | _ => []
/-- keys and values in turn -/
structure DPs (X : Cx) (W : Wd) (E : XK) (pos : Pos) (keys : List (Option Expr)) (values : List Expr) (fs : Env → Sto → Res (List Vl)) : Prop where
  ex : ∃ trs, PPs X pos keys values trs ∧ ∀ σ H (Q : List (V × V) → Hp → Prop), (∃ α F ρ S, Sr W α F S H ∧ EnvR W α F S.length ρ σ ∧ Post W E (VlXs W) α F S H (fs ρ S) fun vs H' => Q (pairsV vs) H') → tPairs trs σ H Q
theorem dps_nil : DPs X W E pos [] [] nilF := ⟨_, pps_nil, fun σ H Q ⟨α, F, ρ, S, s, er, p⟩ => p.here s .nil⟩
theorem dps_cons {k v : Expr} {ks : List (Option Expr)} {vs : List Expr} (hk : PE X k (tD W E fa)) (hv : PE X v (tD W E fb)) (h : DPs X W E pos ks vs fs) : DPs X W E pos (some k :: ks) (v :: vs) (consF fa (consF fb fs)) := by
  obtain ⟨trs, h1, h2⟩ := h.ex
  refine ⟨_, pps_cons hk hv h1, fun σ H Q ⟨α, F, ρ, S, s, er, p⟩ => ⟨α, F, ρ, S, s, er, (Post.bind (Rel := VlX W) p).imp fun y H1 ⟨α1, F1, x, S1, x1, s1, r1, p1⟩ => ?_⟩⟩
  have p1 : Post W E (VlXs W) α1 F1 S1 H1 ((consF fb fs ρ S1).bind fun vs S => .ok (x :: vs) S) fun vs H' => Q (pairsV vs) H' := p1
  have e : (consF fb fs ρ S1).bind (fun vs S => Res.ok (x :: vs) S) = (fb ρ S1).bind fun z S => (fs ρ S).bind fun vs S => .ok (x :: z :: vs) S := by
    unfold consF
    cases fb ρ S1 with
    | ok z S2 => simp only [Res.bind]; cases fs ρ S2 <;> rfl
    | _ => rfl
  rw [e] at p1
  refine ⟨α1, F1, ρ, S1, s1, er.ext x1, (Post.bind (Rel := VlX W) p1).imp fun z H2 ⟨α2, F2, zz, S2, x2, s2, r2, p2⟩ => h2 σ H2 _ ⟨α2, F2, ρ, S2, s2, (er.ext x1).ext x2, (Post.bind (Rel := VlXs W) p2).imp fun us H3 ⟨α3, F3, as, S3, x3, s3, r3, p3⟩ => ?_⟩⟩
  exact p3.here s3 (.cons (r1.ext (x2.trans x3)) (.cons (r2.ext x3) r3))
def dctF (t cell : Bool) (fs : Env → Sto → Res (List Vl)) : Env → Sto → Res Vl := fun ρ S => (fs ρ S).bind fun vs S => dispDct t cell vs S
theorem de_dct0 {t cell : Bool} : PE X (.Dict [] [] pos) (tD W E (dctF t cell nilF)) := by
  cases t with
  | false =>
    refine peI pe_dnewK fun σ H Q ⟨α, F, ρ, S, s, er, p⟩ d0 hd => ?_
    exact fin_dct (kvs := []) (ws := []) p (Ext.refl.oth hd) (s.oth (s.oth0 hd)) hd (s.oth0 hd) (.inl ⟨rfl, [], rfl, rfl, upd_same⟩) .nil
  | true =>
    refine peI pe_dnewT fun σ H Q ⟨α, F, ρ, S, s, er, p⟩ d0 hd => ?_
    exact fin_dct (kvs := []) (ws := []) p (Ext.refl.oth hd) (s.oth (s.oth0 hd)) hd (s.oth0 hd) (.inr ⟨rfl, [], rfl, rfl, upd_same⟩) .nil
theorem pairUp_rel {N : Nat} : ∀ {as : List Vl} {us : List V} {kvs : List (D × Vl)}, VlRs W α F N as us → pairUp as = some kvs → kvs.all (fun kv => keyOk false kv.1) = true →
    ∃ kws : List (Key × V), pairsV us = kws.map (fun kv => (kV kv.1, kv.2)) ∧ kws.length = kvs.length ∧ ∀ {acc : List (D × Vl)} {kacc : List (Key × V)}, OrD W α F N acc (.dK kacc) → OrD W α F N (kvs.foldl (fun acc kv => kvPut acc kv.1 kv.2) acc) (.dK (mergeK kacc kws))
  | [], us, kvs, r, h, _ => by
    cases r
    cases h
    exact ⟨[], rfl, rfl, fun r => r⟩
  | [x], us, kvs, r, h, _ => by cases x <;> cases h
  | x :: y :: as, us, kvs, r, h, ha => by
    cases r with
    | cons r1 r' =>
      cases r' with
      | cons r2 r3 =>
        cases x with
        | p n => cases h
        | d k =>
          simp only [pairUp] at h
          cases hq : pairUp as with
          | none => rw [hq] at h; cases h
          | some kvs' =>
            rw [hq] at h
            cases h
            rw [List.all_cons, Bool.and_eq_true] at ha
            obtain ⟨kws, h1, h2, h3⟩ := pairUp_rel r3 hq ha.2
            obtain ⟨c, hc⟩ : ∃ c, keyK k = some c := by
              have := ha.1
              cases k <;> simp [keyOk] at this <;> exact ⟨_, rfl⟩
            have ec := key_flat hc r1
            refine ⟨(c, _) :: kws, by unfold pairsV; rw [h1, ec]; rfl, by simp [h2], fun {acc kacc} ro => ?_⟩
            obtain ⟨c', ec', ro'⟩ := OrD.put ro ha.1 r1 r2
            have : c' = c := kV_inj (ec'.symm.trans ec)
            subst this
            exact h3 ro'
theorem de_dct {t cell : Bool} {keys : List (Option Expr)} {values : List Expr} (h : DPs X W E pos keys values fs) (hall : keys.all (·.isSome) = true) (hl : keys.length = values.length) (h0 : keys ≠ []) (h15 : keys.length ≤ 15)
    (hne : ∀ ρ S S', fs ρ S ≠ .ok [] S') : PE X (.Dict keys values pos) (tD W E (dctF t cell fs)) := by
  obtain ⟨trs, h1, h2⟩ := h.ex
  refine peI (pe_disp h1 hall hl h0 h15) fun σ H Q ⟨α, F, ρ, S, s, er, p⟩ d0 hd => ?_
  have o0 := s.oth0 hd
  have x0 : Ext α F S H α F S (upd H d0 (.dK [])) := Ext.refl.oth hd
  refine h2 σ _ _ ⟨α, F, ρ, S, s.oth o0, er, ?_⟩
  have p : Post W E (VlX W) α F S H ((fs ρ S).bind fun vs S => dispDct t cell vs S) Q := p
  cases hf : fs ρ S with
  | bad => rw [hf] at p; exact p.elim
  | exc ee S' => rw [hf] at p; exact Post.rebase (r := .exc ee S') (Rel := VlXs W) (Q := fun _ _ => True) x0 p
  | ok vs S2 =>
    rw [hf] at p
    intro us α2 F2 H2 x2 s2 rs
    obtain ⟨o2, hd2⟩ := o0.ext (x := x2) upd_same
    have p : Post W E (VlX W) α F S H (dispDct t cell vs S2) Q := p
    unfold dispDct at p
    cases vs with
    | nil => exact absurd hf (hne ρ S S2)
    | cons v vs =>
      dsimp only at p
      cases hq : pairUp (v :: vs) with
      | none => rw [hq] at p; exact p.elim
      | some kvs =>
        rw [hq] at p
        dsimp only at p
        split at p
        · rename_i hz
          rw [Bool.and_eq_true, Bool.and_eq_true] at hz
          obtain ⟨kws, e1, e2, e3⟩ := pairUp_rel rs hq hz.1.2
          obtain ⟨kk, ws, q1, q2, q3, q4⟩ := e3 (acc := []) (kacc := []) ⟨[], [], rfl, rfl, rfl, .nil⟩
          refine ⟨hd2, kws, e1, by rw [e2]; exact of_decide_eq_true hz.2, ?_⟩
          exact fin_dct p ((x0.trans x2).oth hd) (s2.oth o2) hd o2 (.inl ⟨rfl, kk, q1, q2, by rw [upd_same, q3]⟩) q4
        · exact p.elim

/-! ### fields, instances -/
/-! ### calls -/
/-- what a def of number f promises: what its run tells -/
def spF (W : Wd) (rc : Nat → List Vl → Sto → Res Vl) (f : Nat) : Sp := fun vs H Q E => ∃ α F S as, Sr W α F S H ∧ VlRs W α F S.length as vs ∧ Post W E (VlX W) α F S H (rc f as S) Q
theorem de_call {CX : CXT} {k f : Nat} {fd : FuncData} {ps : List Str} {rc : Nat → List Vl → Sto → Res Vl} {n : Str} {p1 : Pos} (Fk : FnOk X.prog X.w X.K X.mg X.base CX k (W.fa f) fd ps (spF W rc f)) (hr : Room k X.A) (hg : Gl X n) (hm : X.mg n = some (.ref (W.fa f))) (hk : PySem.W.keepIn X.K (.ref (W.fa f)) = true)
    (hb : Binds X.K fd ps []) (hx : Passes CX X E) (hd : (n == ("__debug__" : Str)) = false) (hs : notStar e = true) (hss : es.all notStar = true) (ha : PA X (e :: es) (tDA W E fs)) : PE X (.Call (.Name n p1) (e :: es) [] pos) (tD W E fun ρ S => (fs ρ S).bind fun vs S => rc f vs S) :=
  peI (pe_call Fk hr hg hm hk hb .nil hx ha hd (star_cons hs) (star_none hss)) fun σ H Q ⟨α, F, ρ, S, s, er, p⟩ => ⟨α, F, ρ, S, s, er, (Post.bind (Rel := VlXs W) p).imp fun vs H1 ⟨α1, F1, as, S1, x1, s1, r1, p1⟩ => ⟨α1, F1, S1, as, s1, by rw [List.append_nil]; exact r1, p1⟩⟩
theorem de_call0 {CX : CXT} {k f : Nat} {fd : FuncData} {ps : List Str} {rc : Nat → List Vl → Sto → Res Vl} {n : Str} {p1 : Pos} (Fk : FnOk X.prog X.w X.K X.mg X.base CX k (W.fa f) fd ps (spF W rc f)) (hr : Room k X.A) (hg : Gl X n) (hm : X.mg n = some (.ref (W.fa f))) (hk : PySem.W.keepIn X.K (.ref (W.fa f)) = true)
    (hb : Binds X.K fd ps []) (hx : Passes CX X E) (hd : (n == ("__debug__" : Str)) = false) : PE X (.Call (.Name n p1) [] [] pos) (tD W E fun ρ S => (nilF ρ S).bind fun vs S => rc f vs S) :=
  peI (pe_call0 Fk hr hg hm hk hb .nil hx hd) fun σ H Q ⟨α, F, ρ, S, s, er, p⟩ => ⟨α, F, S, [], s, .nil, p⟩
/-! ### fields -/
theorem kwFind_rel {R : Nat → D → V → Prop} : True := trivial
theorem kw_rel {τ : Type} {R : τ → V → Prop} {nm : Nat → Str} (inj : ∀ a b, nm a = nm b → a = b) (f : Nat) : ∀ {ns : List Nat} {xs : List τ} {us : List V}, Paired R xs us →
    (kwFind (ns.zip xs) f = none ∧ ((ns.map nm).zip us).lookup (nm f) = none) ∨ ∃ x u, kwFind (ns.zip xs) f = some x ∧ ((ns.map nm).zip us).lookup (nm f) = some u ∧ R x u
  | [], xs, us, r => .inl ⟨by simp [kwFind], by simp⟩
  | n :: ns, _, _, .nil => .inl ⟨by simp [kwFind], by simp⟩
  | n :: ns, _, _, .cons (a := x) (b := u) h r => by
    by_cases e : n = f
    · subst e
      exact .inr ⟨x, u, by simp [kwFind], by simp, h⟩
    · have e2 : (nm f == nm n) = false := by
        cases q : nm f == nm n with
        | false => rfl
        | true => exact absurd (inj _ _ (beq_iff_eq.mp q)).symm e
      have e3 : (n == f) = false := by simpa using e
      rcases kw_rel inj f (ns := ns) r with ⟨h1, h2⟩ | ⟨y, w, h1, h2, h3⟩
      · refine .inl ⟨?_, ?_⟩
        · unfold kwFind at h1 ⊢
          simp only [List.zip_cons_cons, List.find?_cons, e3]
          exact h1
        · simp only [List.map_cons, List.zip_cons_cons, List.lookup_cons, e2]
          exact h2
      · refine .inr ⟨y, w, ?_, ?_, h3⟩
        · unfold kwFind at h1 ⊢
          simp only [List.zip_cons_cons, List.find?_cons, e3]
          exact h1
        · simp only [List.map_cons, List.zip_cons_cons, List.lookup_cons, e2]
          exact h2
theorem kw_none {nm : Nat → Str} {m : Str} (h : ∀ k, nm k ≠ m) : ∀ (ns : List Nat) (us : List V), ((ns.map nm).zip us).lookup m = none
  | [], us => by simp
  | n :: ns, [] => by simp
  | n :: ns, u :: us => by
    have e : (m == nm n) = false := by
      cases q : m == nm n with
      | false => rfl
      | true => exact absurd (beq_iff_eq.mp q).symm (h n)
    simp only [List.map_cons, List.zip_cons_cons, List.lookup_cons, e]
    exact kw_none h ns us
theorem zip_kws {τ : Type} : ∀ fs : List (Nat × τ), (fs.map (·.1)).zip (fs.map (·.2)) = fs
  | [] => rfl
  | p :: fs => by simp [zip_kws fs]
theorem nm_map {τ : Type} {nm : Nat → Str} (fs : List (Nat × τ)) : (fs.map fun p => nm p.1) = (fs.map (·.1)).map nm := by simp
theorem kwPut_rel {nm : Nat → Str} (inj : ∀ a b, nm a = nm b → a = b) (f : Nat) {N : Nat} {x : Vl} {w : V} (hx : VlR W α F N x w) : ∀ {fs : List (Nat × Vl)} {us : List V}, VlRs W α F N (fs.map (·.2)) us →
    ∃ us', putF (nm f) w ((fs.map fun p => nm p.1).zip us) = ((kwPut fs f x).map fun p => nm p.1).zip us' ∧ VlRs W α F N ((kwPut fs f x).map (·.2)) us'
  | [], us, r => by
    cases r
    exact ⟨[w], rfl, .cons hx .nil⟩
  | (g, y) :: fs, us, r => by
    cases r with
    | @cons _ v _ vs r1 r2 =>
      unfold kwPut
      by_cases e : g = f
      · subst e
        refine ⟨w :: vs, ?_, ?_⟩
        · simp [putF]
        · simpa using VlRs.cons hx r2
      · obtain ⟨us', h1, h2⟩ := kwPut_rel inj f hx r2
        refine ⟨v :: us', ?_, ?_⟩
        · have e2 : ¬ nm g = nm f := fun z => e (inj _ _ z)
          rw [if_neg e]
          simp only [List.map_cons, List.zip_cons_cons]
          rw [← h1]
          simp [putF, e2]
        · rw [if_neg e]
          exact .cons r1 h2
/-- what is known of the names of fields, of the classes cs -/
structure FldOk (K : PySem.W.Frag) (W : Wd) (f : Str) (k : Nat) (cs : List Nat) : Prop where
  nm : W.nm k = f
  inj : ∀ a b, W.nm a = W.nm b → a = b
  cl : ∀ c ∈ cs, Cls K (W.ca c) ∧ NoAttr K (W.ca c) f
theorem FldOk.mono {K : PySem.W.Frag} {f : Str} {k : Nat} {cs : List Nat} (h : FldOk K W f k cs) (g : Nat → Bool) : FldOk K W f k (cs.filter g) := ⟨h.nm, h.inj, fun c hc => h.cl c (List.mem_filter.mp hc).1⟩
def fldF (k : Nat) (cs : List Nat) (fa : Env → Sto → Res Vl) : Env → Sto → Res Vl := fun ρ S => (fa ρ S).bind fun x S => field x k cs S
theorem field_at {f : Str} {k : Nat} {cs : List Nat} (ok : FldOk X.K W f k cs) (s : Sr W α F S H) (r : VlR W α F S.length x v) {z : Vl} {S' : Sto} (h : field x k cs S = .ok z S') :
    S' = S ∧ ∃ a c dx fs u, c ∈ cs ∧ v = .ref a ∧ H a = some (.ins (W.ca c) dx fs) ∧ fs.lookup f = some u ∧ VlR W α F S.length z u := by
  cases x with
  | p n =>
    obtain ⟨ev, hl⟩ := (show v = .ref (α n) ∧ n < S.length from r)
    simp only [field] at h
    cases hn : S[n]? with
    | none => rw [hn] at h; cases h
    | some c =>
      rw [hn] at h
      cases c with
      | ins c fs =>
        simp only at h
        by_cases hc : cs.contains c = true
        · rw [if_pos hc] at h
          obtain ⟨dx, us, ho, rr⟩ := s.cel n _ hn
          rcases kw_rel ok.inj k (ns := fs.map (·.1)) (vls_paired rr) with ⟨h1, _⟩ | ⟨y, u, h1, h2, h3⟩
          · rw [zip_kws] at h1; rw [h1] at h; cases h
          · rw [zip_kws] at h1
            rw [h1] at h
            cases h
            rw [← nm_map, ok.nm] at h2
            exact ⟨rfl, _, c, dx, _, u, by simpa using hc, ev, ho, h2, h3⟩
        · rw [if_neg hc] at h; cases h
      | _ => cases h
  | d x =>
    cases x with
    | ins c ns ds =>
      have h : (if cs.contains c then (match kwFind (ns.zip ds) k with | some v => Res.ok (Vl.d v) S | none => .bad) else .bad) = .ok z S' := h
      by_cases hc : cs.contains c = true
      · rw [if_pos hc] at h
        obtain ⟨a, dx, us, rfl, ho, rr⟩ := r
        rcases kw_rel ok.inj k (ns := ns) (rps_paired rr) with ⟨h1, _⟩ | ⟨y, u, h1, h2, h3⟩
        · rw [h1] at h; cases h
        · rw [h1] at h
          cases h
          rw [ok.nm] at h2
          exact ⟨rfl, _, c, dx, _, u, by simpa using hc, rfl, s.sub _ _ ho, h2, h3⟩
      · rw [if_neg hc] at h; cases h
    | _ => cases h
theorem field_ok (x : Vl) (k : Nat) (cs : List Nat) (S : Sto) : field x k cs S = .bad ∨ ∃ z, field x k cs S = .ok z S := by
  unfold field
  repeat' split
  all_goals first | exact .inl rfl | exact .inr ⟨_, rfl⟩
theorem field_of {f : Str} {k : Nat} {cs : List Nat} (ok : FldOk X.K W f k cs) (s : Sr W α F S H) (r : VlR W α F S.length x v) (p : Post W E (VlX W) α F S H (field x k cs S) Q) :
    ∃ a C dx fs u, v = .ref a ∧ H a = some (.ins C dx fs) ∧ Cls X.K C ∧ NoAttr X.K C f ∧ fs.lookup f = some u ∧ Q u H := by
  rcases field_ok x k cs S with e | ⟨z, e⟩
  · rw [e] at p; exact p.elim
  · rw [e] at p
    obtain ⟨_, a, c, dx, fs, u, hc, e1, h1, h2, h3⟩ := field_at ok s r e
    obtain ⟨c1, c2⟩ := ok.cl c hc
    exact ⟨a, _, dx, fs, u, e1, h1, c1, c2, h2, p.here s h3⟩
theorem de_fld {f : Str} {k : Nat} {cs : List Nat} (ok : FldOk X.K W f k cs) (hb : noSuper a = true) (ha : PE X a (tD W E fa)) : PE X (.Attribute a f pos) (tD W E (fldF k cs fa)) :=
  peI (pe_fld ha (attr_base hb)) fun σ H Q ⟨α, F, ρ, S, s, er, p⟩ => ⟨α, F, ρ, S, s, er, (Post.bind (Rel := VlX W) p).imp fun v H1 ⟨α1, F1, x, S1, x1, s1, r1, p1⟩ => field_of ok s1 r1 p1⟩

/-! ### methods of own classes, new instances, defs held by names -/
theorem meth_ev {o : Expr} {m : Str} {apos : Pos} {env : PySem.Env} (hb : noSuper o = true) (hf : methodCallForm es.length (backTo pos (starEach es env)) (backToKw pos (keywordEach [] env)) = true) (hl : (apos.endLine == pos.line) = true) :
    eval (.Call (.Attribute o m apos) es [] pos) env = (do
      let ov ← eval o env
      standAt apos.atName
      let (f, first) ← holding [ov] (getMethod ov m (do return (← importBound o env).getD true))
      callWith pos f first (backTo pos (starEach es env)) (backToKw pos (keywordEach [] env))) := by
  show (do
    let ov ← attributeBase o m env (eval o env)
    standAt apos.atName
    methodCall o m apos pos env ov (es.length + 0) (backTo pos (starEach es env)) (backToKw pos (keywordEach [] env))) = _
  rw [attr_base hb]
  unfold methodCall calleeOf methodCallPos
  rw [Nat.add_zero, hf]
  simp only [Bool.not_true, Bool.false_or, hl, if_true, pure_bind]
theorem form_of {es : List Expr} {env : PySem.Env} (h : es.all notStar = true) (hl : es.length < 30) : methodCallForm es.length (backTo pos (starEach es env)) (backToKw pos (keywordEach [] env)) = true := by
  unfold methodCallForm
  rw [few_of h]
  simp [backToKw, keywordEach, hl]
def methF (tab : List (Nat × Nat)) (rc : Nat → List Vl → Sto → Res Vl) (fo : Env → Sto → Res Vl) (fs : Env → Sto → Res (List Vl)) : Env → Sto → Res Vl := fun ρ S => (fo ρ S).bind fun x S => match (clsOf x S).bind fun c => List.lookup c tab with
    | some f => (fs ρ S).bind fun vs S => rc f (x :: vs) S
    | none => .bad
/-- what is known of the methods of a name -/
theorem lookup_mem {τ : Type} {c : Nat} {f : τ} : ∀ {tab : List (Nat × τ)}, List.lookup c tab = some f → (c, f) ∈ tab
  | [], h => by cases h
  | q :: tab, h => by
    rw [List.lookup_cons] at h
    cases e : c == q.1 with
    | true =>
      rw [e] at h
      cases h
      have := beq_iff_eq.mp e
      subst this
      simp
    | false =>
      rw [e] at h
      exact List.mem_cons_of_mem _ (lookup_mem h)
structure MtOk (X : Cx) (W : Wd) (T : CXT) (k : Nat) (rc : Nat → List Vl → Sto → Res Vl) (m : Str) (tab : List (Nat × Nat)) : Prop where
  nm : ∀ j, W.nm j ≠ m
  fn : ∀ p ∈ tab, Cls X.K (W.ca p.1) ∧ Meth X.K (W.ca p.1) m (W.fa p.2) ∧ ∃ fd ps, FnOk X.prog X.w X.K X.mg X.base T k (W.fa p.2) fd ps (spF W rc p.2) ∧ Binds X.K fd ps []
theorem MtOk.mono {T : CXT} {k : Nat} {rc : Nat → List Vl → Sto → Res Vl} {m : Str} {tab : List (Nat × Nat)} (h : MtOk X W T k rc m tab) (g : Nat × Nat → Bool) : MtOk X W T k rc m (tab.filter g) := ⟨h.nm, fun p hp => h.fn p (List.mem_filter.mp hp).1⟩
theorem clsOf_of (s : Sr W α F S H) (r : VlR W α F S.length x v) {c : Nat} (h : clsOf x S = some c) : ∃ a dx ns us, v = .ref a ∧ H a = some (.ins (W.ca c) dx (((ns : List Nat).map W.nm).zip us)) := by
  cases x with
  | p n =>
    obtain ⟨ev, hl⟩ := (show v = .ref (α n) ∧ n < S.length from r)
    simp only [clsOf] at h
    cases hn : S[n]? with
    | none => rw [hn] at h; cases h
    | some c =>
      rw [hn] at h
      cases c with
      | ins c fs =>
        cases h
        obtain ⟨dx, us, ho, rr⟩ := s.cel n _ hn
        rw [nm_map] at ho
        exact ⟨_, dx, _, us, ev, ho⟩
      | _ => cases h
  | d x =>
    cases x with
    | ins c ns ds =>
      cases h
      obtain ⟨a, dx, us, rfl, ho, rr⟩ := r
      exact ⟨a, dx, ns, us, rfl, s.sub _ _ ho⟩
    | _ => cases h
theorem de_meth {T : CXT} {k : Nat} {o : Expr} {m : Str} {apos : Pos} {tab : List (Nat × Nat)} {rc : Nat → List Vl → Sto → Res Vl} (ok : MtOk X W T k rc m tab) (hne : tab.isEmpty = false) (hr : Room k X.A) (hx : Passes T X E)
    (hb : noSuper o = true) (hl : (apos.endLine == pos.line) = true) (hs : es.all notStar = true) (h30 : es.length < 30) (ho : PE X o (tD W E fa)) (ha : PA X es (tDA W E fs)) (hnil : es = [] → fs = nilF) :
    PE X (.Call (.Attribute o m apos) es [] pos) (tD W E (methF tab rc fa fs)) := by
  have ev := meth_ev (m := m) (env := X.env) hb (form_of (pos := pos) (env := X.env) hs h30) hl
  have one : ∀ p ∈ tab, ∃ sp : Sp, sp = spF W rc p.2 ∧ PE X (.Call (.Attribute o m apos) es [] pos) (tMeth (W.ca p.1) m sp [] E (tD W E fa) (if es.isEmpty then tNil else tDA W E fs)) := fun p hp => by
    obtain ⟨c, me, fd, ps, F, b⟩ := ok.fn p hp
    refine ⟨_, rfl, ?_⟩
    cases es with
    | nil => exact pe_meth0 ho c me F hr b .nil hx ev
    | cons e es =>
      rw [List.all_cons, Bool.and_eq_true] at hs
      exact pe_meth ho c me F hr b .nil hx ha (star_cons hs.1) (star_none hs.2) ev
  refine ⟨fun pins sh σ H Q I ⟨α, F, ρ, S, s, er, p⟩ => ?_⟩
  have p : Post W E (VlX W) α F S H ((fa ρ S).bind fun x S => match (clsOf x S).bind fun c => List.lookup c tab with
    | some f => (fs ρ S).bind fun vs S => rc f (x :: vs) S
    | none => .bad) Q := p
  cases hf : fa ρ S with
  | bad => rw [hf] at p; exact p.elim
  | exc ee S' =>
    rw [hf] at p
    cases tab with
    | nil => cases hne
    | cons q tab =>
      obtain ⟨sp, e, h⟩ := one q (by simp)
      exact h.run pins sh σ H Q I ⟨α, F, ρ, S, s, er, by rw [hf]; exact p⟩
  | ok x S1 =>
    rw [hf] at p
    have p : Post W E (VlX W) α F S H (match (clsOf x S1).bind fun c => List.lookup c tab with
      | some f => (fs ρ S1).bind fun vs S => rc f (x :: vs) S
      | none => .bad) Q := p
    cases hc : clsOf x S1 with
    | none => rw [hc] at p; exact p.elim
    | some c =>
      rw [hc] at p
      simp only [Option.bind_some] at p
      cases hg : List.lookup c tab with
      | none => rw [hg] at p; exact p.elim
      | some f =>
        rw [hg] at p
        simp only at p
        have hmem : (c, f) ∈ tab := by
          exact lookup_mem hg
        obtain ⟨sp, e, h⟩ := one (c, f) hmem
        subst e
        refine h.run pins sh σ H Q I ⟨α, F, ρ, S, s, er, ?_⟩
        rw [hf]
        intro w α1 F1 H1 x1 s1 r1
        obtain ⟨a, dx, ns, us, ew, hi⟩ := clsOf_of s1 r1 hc
        refine ⟨a, dx, _, ew, hi, kw_none ok.nm ns us, ?_⟩
        have p1 := Post.rebase x1 p
        have fin : ∀ vs H2, Mid W E (VlXs W) (VlX W) α1 F1 S1 H1 (fun vs S => rc f (x :: vs) S) Q vs H2 → spF W rc f (w :: (vs ++ [])) H2 Q E := fun vs H2 ⟨α2, F2, as, S2, x2, s2, r2, p2⟩ => by
          rw [List.append_nil]
          exact ⟨α2, F2, S2, x :: as, s2, .cons (r1.ext x2) r2, p2⟩
        cases es with
        | nil =>
          have := hnil rfl
          subst this
          exact fin [] H1 ⟨α1, F1, [], S1, Ext.refl, s1, .nil, p1⟩
        | cons e es => exact ⟨α1, F1, ρ, S1, s1, er.ext x1, (Post.bind (Rel := VlXs W) p1).imp fin⟩
def callvF (G : Gm) (i : Nat) (rc : Nat → List Vl → Sto → Res Vl) (fs : Env → Sto → Res (List Vl)) : Env → Sto → Res Vl := fun ρ S => match (ρ[i]?).bind id with
    | some (.d (.fn f)) => if G.callable f then (fs ρ S).bind fun vs S => rc f vs S else .bad
    | _ => .bad
theorem de_callv {T : CXT} {k i : Nat} {G : Gm} {rc : Nat → List Vl → Sto → Res Vl} {n : Str} {p1 : Pos} (ok : ∀ f, G.callable f = true → ∃ fd ps, FnOk X.prog X.w X.K X.mg X.base T k (W.fa f) fd ps (spF W rc f) ∧ PySem.W.keepIn X.K (.ref (W.fa f)) = true ∧ Binds X.K fd ps [])
    (hr : Room k X.A) (hN : X.N[i]? = some n) (hv : Vis X.env.scope n) (hd : (n == ("__debug__" : Str)) = false) (hcd : (n == ("__classdict__" : Str)) = false) (hx : Passes T X E) (hs : notStar e = true) (hss : es.all notStar = true) (ha : PA X (e :: es) (tDA W E fs)) :
    PE X (.Call (.Name n p1) (e :: es) [] pos) (tD W E (callvF G i rc fs)) := by
  refine ⟨fun pins sh σ H Q I ⟨α, F, ρ, S, s, er, p⟩ => ?_⟩
  unfold callvF at p
  cases q : (ρ[i]?).bind id with
  | none => rw [q] at p; exact p.elim
  | some v =>
    rw [q] at p
    have q' : ρ[i]? = some (some v) := by
      cases z : ρ[i]? with
      | none => rw [z] at q; cases q
      | some o => rw [z] at q; exact congrArg some q
    obtain ⟨w, ew, r⟩ := er.at_ i v q'
    cases v with
    | p n => exact p.elim
    | d x =>
      cases x with
      | fn f =>
        have p : Post W E (VlX W) α F S H (if G.callable f then (fs ρ S).bind fun vs S => rc f vs S else .bad) Q := p
        by_cases hc : G.callable f = true
        · rw [if_pos hc] at p
          obtain ⟨fd, ps, Fk, hk, hb⟩ := ok f hc
          cases (show w = .ref (W.fa f) from r)
          refine (pe_callL Fk hr hN hv hk hb .nil hx ha hd hcd (star_cons hs) (star_none hss)).run pins sh σ H Q I ⟨ew, α, F, ρ, S, s, er, (Post.bind (Rel := VlXs W) p).imp fun vs H1 ⟨α1, F1, as, S1, x1, s1, r1, p1⟩ => ?_⟩
          rw [List.append_nil]
          exact ⟨α1, F1, S1, as, s1, r1, p1⟩
        · rw [if_neg hc] at p; exact p.elim
      | _ => exact p.elim
def makeF (c f : Nat) (rc : Nat → List Vl → Sto → Res Vl) (fs : Env → Sto → Res (List Vl)) : Env → Sto → Res Vl := fun ρ S => (fs ρ S).bind fun vs S => made S.length (rc f (.p S.length :: vs) (S ++ [.ins c []]))
theorem make_of {c f : Nat} {rc : Nat → List Vl → Sto → Res Vl} {as : List Vl} {vs : List V} (s : Sr W α F S H) (rs : VlRs W α F S.length as vs) (p : Post W E (VlX W) α F S H (made S.length (rc f (.p S.length :: as) (S ++ [.ins c []]))) Q) {i dx : Addr} (hi : H i = none) (hdx : H dx = none) (ne : dx ≠ i) :
    spF W rc f (.ref i :: (vs ++ [])) (upd (upd H dx (.own i)) i (.ins (W.ca c) dx [])) (fun v H2 => v = .non ∧ Q (.ref i) H2) E := by
  rw [List.append_nil]
  have s1 := s.oth (s.oth0 hdx) (u := .own i)
  have x1 : Ext α F S H α F S (upd H dx (.own i)) := Ext.refl.oth hdx
  have hi1 : upd H dx (.own i) i = none := by rw [upd_ne fun z => ne z.symm]; exact hi
  obtain ⟨s2, x2⟩ := s1.newC (o := .ins (W.ca c) dx []) (c := .ins c []) hi1 ⟨dx, [], upd_same, .nil⟩
  have x12 := x1.trans x2
  refine ⟨_, _, _, .p S.length :: as, s2, .cons (show _ ∧ _ from ⟨by rw [adr_same], by simp⟩) (rs.ext x12), ?_⟩
  cases hr : rc f (.p S.length :: as) (S ++ [.ins c []]) with
  | bad => rw [hr] at p; exact p.elim
  | exc ee S' =>
    rw [hr] at p
    exact Post.rebase (r := .exc ee S') (Rel := VlX W) (Q := fun _ _ => True) x12 p
  | ok v S' =>
    rw [hr] at p
    intro w α3 F3 H3 x3 s3 r3
    cases v with
    | p n => exact p.elim
    | d y =>
      cases y with
      | non =>
        refine ⟨r3, p (.ref i) α3 F3 H3 (x12.trans x3) s3 ⟨?_, ?_⟩⟩
        · rw [x3.al S.length (by simp), adr_same]
        · exact Nat.lt_of_lt_of_le (by simp) x3.len
      | _ => exact p.elim
theorem de_make {T : CXT} {k c f : Nat} {fd : FuncData} {ps : List Str} {rc : Nat → List Vl → Sto → Res Vl} {n : Str} {p1 : Pos} (M : Mk X.K (W.ca c) (W.fa f)) (Fk : FnOk X.prog X.w X.K X.mg X.base T k (W.fa f) fd ps (spF W rc f)) (hr : Room (k + 1) X.A) (hg : Gl X n) (hm : X.mg n = some (.ref (W.ca c)))
    (hb : Binds X.K fd ps []) (hx : Passes T X E) (hd : (n == ("__debug__" : Str)) = false) (hs : es.all notStar = true) (ha : PA X es (tDA W E fs)) (hnil : es = [] → fs = nilF) : PE X (.Call (.Name n p1) es [] pos) (tD W E (makeF c f rc fs)) := by
  cases es with
  | nil =>
    have := hnil rfl
    subst this
    exact peI (pe_make0 M Fk hr hg hm hb .nil hx hd) fun σ H Q ⟨α, F, ρ, S, s, er, p⟩ i dx hi hdx ne => make_of s .nil p hi hdx ne
  | cons e es =>
    rw [List.all_cons, Bool.and_eq_true] at hs
    exact peI (pe_make M Fk hr hg hm hb .nil hx ha hd (star_cons hs.1) (star_none hs.2)) fun σ H Q ⟨α, F, ρ, S, s, er, p⟩ => ⟨α, F, ρ, S, s, er, (Post.bind (Rel := VlXs W) p).imp fun vs H1 ⟨α1, F1, as, S1, x1, s1, r1, p1⟩ i dx hi hdx ne => make_of s1 r1 p1 hi hdx ne⟩
end
end Z
end

section
set_option maxHeartbeats 1000000
/-! Z14: statements. -/
namespace Z
open PySem L2

def PostS (W : Wd) (E : XK) (α : Nat → Addr) (F : Hp) (S : Sto) (H : Hp) (r : RS) (D : Ends) : Prop :=
  match r with
  | .nx ρ S' => ∀ σ' α' F' H', Ext α F S H α' F' S' H' → Sr W α' F' S' H' → EnvR W α' F' S'.length ρ σ' → D.nx σ' H'
  | .bk ρ S' => ∀ σ' α' F' H', Ext α F S H α' F' S' H' → Sr W α' F' S' H' → EnvR W α' F' S'.length ρ σ' → D.bk σ' H'
  | .ct ρ S' => ∀ σ' α' F' H', Ext α F S H α' F' S' H' → Sr W α' F' S' H' → EnvR W α' F' S'.length ρ σ' → D.ct σ' H'
  | .rt v S' => ∀ w α' F' H', Ext α F S H α' F' S' H' → Sr W α' F' S' H' → VlR W α' F' S'.length v w → D.rt w H'
  | .exc e S' => ∀ c d α' F' H', Ext α F S H α' F' S' H' → Sr W α' F' S' H' → ExR W F' H' e c d → E c d H'
  | .bad => False
def tDS (W : Wd) (E : XK) (f : Env → Sto → RS) : TS := fun D σ H => ∃ α F ρ S, Sr W α F S H ∧ EnvR W α F S.length ρ σ ∧ PostS W E α F S H (f ρ S) D
theorem psI {X : Cx} {st : Stmt} {t t' : TS} (h : PS X st t) (k : ∀ D σ H, t' D σ H → t D σ H) : PS X st t' := ⟨fun pins s σ H D I q => h.run pins s σ H D I (k D σ H q)⟩
theorem pssI {X : Cx} {st : List Stmt} {t t' : TS} (h : PSs X st t) (k : ∀ D σ H, t' D σ H → t D σ H) : PSs X st t' := ⟨fun pins s σ H D I q => h.run pins s σ H D I (k D σ H q)⟩

section
variable {W : Wd} {E : XK} {α α' : Nat → Addr} {F F' : Hp} {S S' : Sto} {H H' : Hp} {τ β : Type} {Rel : (Nat → Addr) → Hp → Sto → Hp → τ → β → Prop}
theorem PostS.rebase {r : RS} {D : Ends} (x : Ext α F S H α' F' S' H') (p : PostS W E α F S H r D) : PostS W E α' F' S' H' r D := by
  cases r with
  | nx ρ S'' => exact fun σ α2 F2 H2 y s q => p σ α2 F2 H2 (x.trans y) s q
  | bk ρ S'' => exact fun σ α2 F2 H2 y s q => p σ α2 F2 H2 (x.trans y) s q
  | ct ρ S'' => exact fun σ α2 F2 H2 y s q => p σ α2 F2 H2 (x.trans y) s q
  | rt v S'' => exact fun σ α2 F2 H2 y s q => p σ α2 F2 H2 (x.trans y) s q
  | exc e S'' => exact fun c d α2 F2 H2 y s q => p c d α2 F2 H2 (x.trans y) s q
  | bad => exact p
def MidS (W : Wd) (E : XK) (Rel : (Nat → Addr) → Hp → Sto → Hp → τ → β → Prop) (α : Nat → Addr) (F : Hp) (S : Sto) (H : Hp) (g : τ → Sto → RS) (D : Ends) (w : β) (H1 : Hp) : Prop :=
  ∃ α1 F1 a S1, Ext α F S H α1 F1 S1 H1 ∧ Sr W α1 F1 S1 H1 ∧ Rel α1 F1 S1 H1 a w ∧ PostS W E α1 F1 S1 H1 (g a S1) D
theorem Post.thn {r : Res τ} {g : τ → Sto → RS} {D : Ends} (p : PostS W E α F S H (r.thn g) D) : Post W E Rel α F S H r (MidS W E Rel α F S H g D) := by
  cases r with
  | ok a S' => exact fun w α' F' H' x s q => ⟨α', F', a, S', x, s, q, PostS.rebase x p⟩
  | exc e S' => exact p
  | bad => exact p
theorem PostS.here {ρ : Env} {σ : L2.St} {D : Ends} (p : PostS W E α F S H (.nx ρ S) D) (s : Sr W α F S H) (er : EnvR W α F S.length ρ σ) : D.nx σ H := p σ α F H Ext.refl s er
end

section
variable {X : Cx} {W : Wd} {E : XK} {a b c e tg : Expr} {es : List Expr} {pos : Pos} {fa fb fc : Env → Sto → Res Vl} {fs : Env → Sto → Res (List Vl)} {st : Stmt} {sts : List Stmt}
variable {α : Nat → Addr} {F : Hp} {S : Sto} {H : Hp} {Q : VK} {x y : Vl} {v u : V} {g h : Env → Sto → RS}

theorem dss_nil : PSs X [] (tDS W E fun ρ S => .nx ρ S) := pssI pss_nil fun D σ H ⟨α, F, ρ, S, s, er, p⟩ => p.here s er
theorem dss_cons (h1 : PS X st (tDS W E g)) (h2 : PSs X sts (tDS W E h)) : PSs X (st :: sts) (tDS W E fun ρ S => (g ρ S).seq h) := by
  refine pssI (pss_cons h1 h2) fun D σ H ⟨α, F, ρ, S, s, er, p⟩ => ⟨α, F, ρ, S, s, er, ?_⟩
  dsimp only at p
  cases hg : g ρ S with
  | nx ρ' S' =>
    rw [hg] at p
    exact fun σ' α' F' H' x s' er' => ⟨α', F', ρ', S', s', er', PostS.rebase x p⟩
  | rt v S' => rw [hg] at p; exact p
  | bk ρ' S' => rw [hg] at p; exact p
  | ct ρ' S' => rw [hg] at p; exact p
  | exc ee S' => rw [hg] at p; exact p
  | bad => rw [hg] at p; exact p.elim
theorem ds_pass : PS X (.Pass pos) (tDS W E fun ρ S => .nx ρ S) := psI ps_pass fun D σ H ⟨α, F, ρ, S, s, er, p⟩ => p.here s er
theorem ds_break : PS X (.Break pos) (tDS W E fun ρ S => .bk ρ S) := psI ps_break fun D σ H ⟨α, F, ρ, S, s, er, p⟩ => p σ α F H Ext.refl s er
theorem ds_cont : PS X (.Continue pos) (tDS W E fun ρ S => .ct ρ S) := psI ps_continue fun D σ H ⟨α, F, ρ, S, s, er, p⟩ => p σ α F H Ext.refl s er
def retF (fa : Env → Sto → Res Vl) : Env → Sto → RS := fun ρ S => (fa ρ S).thn fun v S => .rt v S
theorem ds_ret (ha : PE X a (tD W E fa)) : PS X (.Return (some a) pos) (tDS W E (retF fa)) := psI (ps_ret ha) fun D σ H ⟨α, F, ρ, S, s, er, p⟩ =>
  ⟨α, F, ρ, S, s, er, (Post.thn (Rel := VlX W) p).imp fun v H1 ⟨α1, F1, x, S1, x1, s1, r1, p1⟩ => p1 v α1 F1 H1 Ext.refl s1 r1⟩
theorem ds_retN : PS X (.Return none pos) (tDS W E fun ρ S => (Res.ok (Vl.d .non) S).thn fun v S => .rt v S) := psI ps_retN fun D σ H ⟨α, F, ρ, S, s, er, p⟩ => p .non α F H Ext.refl s rfl
def exprF (fa : Env → Sto → Res Vl) : Env → Sto → RS := fun ρ S => (fa ρ S).thn fun _ S => .nx ρ S
theorem sw_not (h : isLc e = false) {t : Option Expr} {l : Nat} {env : PySem.Env} : swapsWith e t l env = pure false := by
  cases e <;> first | rfl | (simp [isLc] at h)
theorem swS_not (h : isLc e = false) {t : Expr} {l : Nat} {env : PySem.Env} : PySem.swapsWithSole [t] e l env = pure false := sw_not h
theorem ds_expr (hl : isLc a = false) (ha : PE X a (tD W E fa)) : PS X (.Expr a pos) (tDS W E (exprF fa)) := psI (ps_expr ha (sw_not hl)) fun D σ H ⟨α, F, ρ, S, s, er, p⟩ =>
  ⟨α, F, ρ, S, s, er, (Post.thn (Rel := VlX W) p).imp fun v H1 ⟨α1, F1, x, S1, x1, s1, r1, p1⟩ => p1.here s1 (er.ext x1)⟩
def asgF (t : Tg) (fa : Env → Sto → Res Vl) : Env → Sto → RS := fun ρ S => (fa ρ S).thn fun v S => match bindT t v ρ with
    | some ρ => .nx ρ S
    | none => .bad
theorem asg_go {t : Tg} {D : Ends} {ρ : Env} {σ : L2.St} (s : Sr W α F S H) (er : EnvR W α F S.length ρ σ) (r : VlR W α F S.length x v) (p : PostS W E α F S H (match bindT t x ρ with | some ρ => .nx ρ S | none => .bad) D) : gD W t v σ H D.nx := by
  cases hb : bindT t x ρ with
  | none => rw [hb] at p; exact p.elim
  | some ρ' =>
    rw [hb] at p
    exact ⟨α, F, S, x, ρ, ρ', s, er, r, hb, fun σ' st => p.here s st.env⟩
theorem ds_asg {t : Tg} (hl : PySem.swapsWithSole [tg] a pos.line X.env = pure false) (hw : swappedStores [tg] a X.env = pure none) (hn : notStar tg = true) (ha : PE X a (tD W E fa)) (hg : PG X tg (gD W t)) : PS X (.Assign [tg] a pos) (tDS W E (asgF t fa)) :=
  psI (ps_asg ha hg hl hw (by rw [asg_cons hn]; rfl)) fun D σ H ⟨α, F, ρ, S, s, er, p⟩ =>
    ⟨α, F, ρ, S, s, er, (Post.thn (Rel := VlX W) p).imp fun v H1 ⟨α1, F1, x, S1, x1, s1, r1, p1⟩ => asg_go s1 (er.ext x1) r1 p1⟩
/-- x = [..] -/
theorem ds_asgLc {iter elt : Expr} {ifs : List Expr} {scope : Scope} {own : List (Str × Nat)} {cell : Bool} {t : Tg} {fi : Env → Sto → Res (List Vl × Option (Nat × Cell))} {fcond : Env → Sto → Res Bool} {fe : Env → Sto → Res Vl} {i : Nat} {n : Str} {py pos' : Pos}
    (hc : X.calm = true) (hN : X.N.Nodup) (hy : X.N[i]? = some n) (hyl : X.env.scope.names.lookup n = some .local) (hsw : swapsWith (.ListComp elt [⟨tg, iter, ifs, 0⟩] scope pos) (some (.Name n py)) pos'.line X.env = pure true)
    (hi : PI X tg iter (tDI W E fi)) (ok : BlkOk X.N X.env.scope scope own)
    (hg : ∀ (s : Shared) (H : Hp) (C : Addr) (cl : List (Str × Addr)) (fp : List Addr), PG (X.blk s H scope (compEnvC scope cl C X.env) fp) tg (gD W t))
    (ht : ∀ (s : Shared) (H : Hp) (C : Addr) (cl : List (Str × Addr)) (fp : List Addr), PTs (X.blk s H scope (compEnvC scope cl C X.env) fp) ifs (tDT W E0 fcond))
    (he : ∀ (s : Shared) (H : Hp) (C : Addr) (cl : List (Str × Addr)) (fp : List Addr), PE (X.blk s H scope (compEnvC scope cl C X.env) fp) elt (tD W E0 fe))
    (hs : ∀ x, foldedSetIterable iter X.env x = pure x) (hsub : ∀ i ∈ t.slots, i ∈ own.map (·.2)) :
    PS X (.Assign [.Name n py] (.ListComp elt [⟨tg, iter, ifs, 0⟩] scope pos) pos') (tDS W E (asgF (.var i) (lcAll cell t (own.map (·.2)) fi fcond fe))) :=
  psI (ps_setLc hc hN hy hyl hsw hi ok hg ht he hs) fun D σ H ⟨α, F, ρ, S, s, er, p⟩ => lc_read hsub ⟨α, F, ρ, S, s, er, (Post.thn (Rel := VlX W) p).imp fun v H1 ⟨α1, F1, x, S1, x1, s1, r1, p1⟩ => p1.here s1 ((er.ext x1).set r1 i)⟩

/-! ### stores -/
def subF (fo fi fe : Env → Sto → Res Vl) : Env → Sto → RS := fun ρ S => (fe ρ S).thn fun v S => (fo ρ S).thn fun x S => (fi ρ S).thn fun k S => match setItem x k v S with
    | some S => .nx ρ S
    | none => .bad
theorem VlRs.setI {xs : List Vl} {vs : List V} {N : Nat} (r : VlRs W α F N xs vs) (q : VlR W α F N x v) (i : Nat) : VlRs W α F N (xs.set i x) (vs.set i v) := r.set q i
theorem set_plain {o i : Expr} {p1 : Pos} (h : isSl i = false) {env : PySem.Env} (v : Value) : assign (.Subscript o i p1) env v = (do
      let ov ← holding [v] (eval o env)
      let iv ← holding [v, ov] (eval i env)
      standAt p1
      holding [v, ov, iv] (PySem.setItem ov iv v)
      release [v, ov, iv] []) := by
  cases i <;> first | rfl | (simp [isSl] at h)
theorem set_dct (hu : X.A.units + 100 < cLine) : PSet X (fun o i v H Q => ∃ a H', o = .ref a ∧ DPut H a i v H' ∧ Q H') := by
  intro pins s σ H o i v ov iv u Q I ro ri rv h
  obtain ⟨a, H', rfl, g, q⟩ := h
  obtain rfl : ov = Value.ref a := ro
  exact d_setItem (by omega) I g ri rv fun s' I' => ⟨H', I', q⟩
theorem psetOr {t t' : TSet} (h : PSet X t) (h' : PSet X t') : PSet X (fun o i v H Q => t o i v H Q ∨ t' o i v H Q) := fun pins s σ H o i v ov iv u Q I ro ri rv q => q.elim (h pins s σ H o i v ov iv u Q I ro ri rv) (h' pins s σ H o i v ov iv u Q I ro ri rv)
theorem ds_sub (hu : X.A.units + 100 < cLine) {o i : Expr} {p1 : Pos} {fo fi fe : Env → Sto → Res Vl} (hl : isLc e = false) (hsl : isSl i = false) (ho : PE X o (tD W E fo)) (hi : PE X i (tD W E fi)) (he : PE X e (tD W E fe)) : PS X (.Assign [.Subscript o i p1] e pos) (tDS W E (subF fo fi fe)) := by
  refine psI (ps_asg he (pg_sub ho hi (psetOr set_list (set_dct hu)) fun v => set_plain hsl v) (swS_not hl)) fun D σ H ⟨α, F, ρ, S, s, er, p⟩ =>
    ⟨α, F, ρ, S, s, er, (Post.thn (Rel := VlX W) p).imp fun v H1 ⟨α1, F1, x, S1, x1, s1, r1, p1⟩ => ⟨α1, F1, ρ, S1, s1, er.ext x1, (Post.thn (Rel := VlX W) p1).imp fun o H2 ⟨α2, F2, y, S2, x2, s2, r2, p2⟩ =>
      ⟨α2, F2, ρ, S2, s2, (er.ext x1).ext x2, (Post.thn (Rel := VlX W) p2).imp fun k H3 ⟨α3, F3, z, S3, x3, s3, r3, p3⟩ => ?_⟩⟩⟩
  have r1 := r1.ext (x2.trans x3)
  have r2 := r2.ext x3
  have er3 := ((er.ext x1).ext x2).ext x3
  cases y with
  | d y => exact p3.elim
  | p n =>
    cases z with
    | p m => exact p3.elim
    | d z =>
      obtain ⟨rfl, hlt⟩ := (show o = .ref (α3 n) ∧ n < S3.length from r2)
      dsimp only [setItem] at p3
      cases hn : S3[n]? with
      | none => rw [hn] at p3; exact p3.elim
      | some c =>
        rw [hn] at p3
        cases c with
        | lst xs =>
          cases z with
          | int j =>
            simp only at p3
            cases hj : ixN xs.length j with
            | none => rw [hj] at p3; exact p3.elim
            | some jj =>
              rw [hj] at p3
              obtain ⟨vs, hv, rr⟩ := s3.cel n _ hn
              obtain ⟨s', x'⟩ := s3.setC (n := n) (o := .lst (vs.set jj v)) (c := .lst (xs.set jj x)) ⟨_, hn, fun z => nomatch z⟩ ⟨_, upd_same, rr.set r1 jj⟩
              exact .inl ⟨α3 n, vs, j, jj, rfl, r3, hv, by rw [← rr.length]; exact hj, p3 σ α3 F3 _ x' s' (er3.ext x')⟩
          | _ => exact p3.elim
        | dct t kvs =>
          simp only at p3
          by_cases hk : (keyOk t z && decide (kvs.length < most)) = true
          · rw [if_pos hk] at p3
            rw [Bool.and_eq_true] at hk
            obtain ⟨ws, hd, rr⟩ := s3.cel n _ hn
            obtain ⟨o', ws', g, hd', rr'⟩ := dput_of hd rr hk.1 r3 s3.sub r1 (of_decide_eq_true hk.2)
            obtain ⟨s', x'⟩ := s3.setC (n := n) (o := o') (c := .dct t (kvPut kvs z x)) ⟨_, hn, fun z => nomatch z⟩ ⟨ws', hd', rr'⟩
            exact .inr ⟨α3 n, _, rfl, g, p3 σ α3 F3 _ x' s' (er3.ext x')⟩
          · rw [if_neg hk] at p3
            exact p3.elim
        | _ => exact p3.elim
theorem in_aug {op : Operator} {o : Op} (ho : cOp op = some o) : ∃ ti : TIp, PIp X op ti ∧ ∀ {α F S H x y v u} {Q : VK}, Sr W α F S H → VlR W α F S.length x v → VlR W α F S.length y u → Post W E (VlX W) α F S H (augop o x y S) Q → ti v u H Q := by
  cases op <;> simp [cOp] at ho <;> subst ho
  · refine ⟨_, (iop_add (X := X)).or (iop_add_str (X := X)), fun {α F S H x y v u Q} s rx ry p => ?_⟩
    cases x with
    | p n => exact p.elim
    | d x =>
      cases x with
      | int i =>
        cases y with
        | p n => exact p.elim
        | d y =>
          cases y with
          | int j => exact .inl ⟨i, j, rx, ry, p.here s rfl⟩
          | _ => exact p.elim
      | str i =>
        cases y with
        | p n => exact p.elim
        | d y =>
          cases y with
          | str j =>
            have p : Post W E (VlX W) α F S H (if decide (i.length + j.length ≤ most) then .ok (.d (.str (i ++ j))) S else .bad) Q := p
            by_cases hz : i.length + j.length ≤ most
            · rw [if_pos (by simpa using hz)] at p
              refine .inr ⟨_, _, rx, ry, by rw [str_len, str_len, ← most_eq]; exact hz, ?_⟩
              rw [str_app]
              exact p.here s rfl
            · rw [if_neg (by simpa using hz)] at p
              exact p.elim
          | _ => exact p.elim
      | _ => exact p.elim
  · exact ⟨_, iop_sub (X := X), fun s rx ry p => by
      obtain ⟨i, j, e1, e2, _, q⟩ := bin_int (C := fun _ _ => True) (fun _ _ _ => trivial) s rx ry p
      exact ⟨i, j, e1, e2, q⟩⟩
  · exact ⟨_, iop_mul (X := X), fun s rx ry p => bin_int (fun _ _ h => cMul_iff.mp h) s rx ry p⟩
  · exact ⟨_, iop_mod (X := X), fun s rx ry p => bin_int (fun _ _ h => of_decide_eq_true h) s rx ry p⟩
  · exact ⟨fun _ _ _ _ => False, fun _ _ _ _ _ _ _ _ _ _ _ _ q => q.elim, fun s rx ry p => p⟩
  · exact ⟨_, iop_shl (X := X), fun s rx ry p => bin_int (fun _ _ h => cPow_iff.mp h) s rx ry p⟩
  · exact ⟨_, iop_fdiv (X := X), fun s rx ry p => bin_int (fun i j h => by
      rw [Bool.and_eq_true] at h
      exact ⟨of_decide_eq_true h.1, of_decide_eq_true h.2⟩) s rx ry p⟩
def augF (i : Nat) (o : Op) (fe : Env → Sto → Res Vl) : Env → Sto → RS := fun ρ S => (pick ((ρ[i]?).bind id) S).thn fun x S => (fe ρ S).thn fun y S => (augop o x y S).thn fun z S => .nx (ρ.set i (some z)) S
theorem ds_aug {op : Operator} {o : Op} {i : Nat} {n : Str} {p1 : Pos} {fe : Env → Sto → Res Vl} (ho : cOp op = some o) (hN : X.N.Nodup) (hi : X.N[i]? = some n) (hx : Loc X.env.scope n) (hf : X.fn n = true ∨ X.env.scope.names.lookup n = some .local) (he : PE X e (tD W E fe)) :
    PS X (.AugAssign (.Name n p1) op e pos) (tDS W E (augF i o fe)) := by
  obtain ⟨ti, h1, h2⟩ := in_aug (X := X) (W := W) (E := E) ho
  refine psI (ps_aug hN hi hx he h1 hf) fun D σ H ⟨α, F, ρ, S, s, er, p⟩ => ?_
  have p : PostS W E α F S H ((pick ((ρ[i]?).bind id) S).thn fun x S => (fe ρ S).thn fun y S => (augop o x y S).thn fun z S => .nx (ρ.set i (some z)) S) D := p
  cases q : (ρ[i]?).bind id with
  | none => rw [q] at p; exact p.elim
  | some x =>
    rw [q] at p
    have q' : ρ[i]? = some (some x) := by
      cases z : ρ[i]? with
      | none => rw [z] at q; cases q
      | some o => rw [z] at q; exact congrArg some q
    obtain ⟨w, ew, r⟩ := er.at_ i x q'
    have p : PostS W E α F S H ((fe ρ S).thn fun y S => (augop o x y S).thn fun z S => .nx (ρ.set i (some z)) S) D := p
    refine ⟨w, ew, α, F, ρ, S, s, er, (Post.thn (Rel := VlX W) p).imp fun u H1 ⟨α1, F1, y, S1, x1, s1, r1, p1⟩ => h2 s1 (r.ext x1) r1 ((Post.thn (Rel := VlX W) p1).imp fun z H2 ⟨α2, F2, zz, S2, x2, s2, r2, p2⟩ => ?_)⟩
    exact p2.here s2 (((er.ext x1).ext x2).set r2 i)

/-! ### branches, loops -/
def ifF (fc : Env → Sto → Res Vl) (g h : Env → Sto → RS) : Env → Sto → RS := fun ρ S => (fc ρ S).thn fun x S => (tru x S).thn fun k S => if k then g ρ S else h ρ S
theorem thn_tru {r : Res Vl} {g : Bool → Sto → RS} : (r.thn fun x S => (tru x S).thn g) = (r.bind tru).thn g := by
  cases r <;> rfl
theorem ds_if {as bs : List Stmt} (hc : PT X c (tDT W E fun ρ S => (fc ρ S).bind tru)) (ha : PSs X as (tDS W E g)) (hb : PSs X bs (tDS W E h)) : PS X (.If c as bs pos) (tDS W E (ifF fc g h)) := by
  refine psI (ps_if hc ha hb) fun D σ H ⟨α, F, ρ, S, s, er, p⟩ => ?_
  have p : PostS W E α F S H ((fc ρ S).thn fun x S => (tru x S).thn fun k S => if k then g ρ S else h ρ S) D := p
  rw [thn_tru] at p
  refine ⟨α, F, ρ, S, s, er, (Post.thn (Rel := RelE) p).imp fun k H1 ⟨α1, F1, k', S1, x1, s1, r1, p1⟩ => ?_⟩
  cases (show k' = k from r1)
  cases k with
  | true => exact ⟨α1, F1, ρ, S1, s1, er.ext x1, p1⟩
  | false => exact ⟨α1, F1, ρ, S1, s1, er.ext x1, p1⟩
theorem ds_while {fuel : Nat} {bs : List Stmt} (hp : PassesOwn (model X.prog X.w) X.A X.env X.xe) (hc : PT X c (tDT W E fun ρ S => (fc ρ S).bind tru)) (hb : PSs X bs (tDS W E g)) : PS X (.While c bs [] pos) (tDS W E fun ρ S => whl (fun ρ S => (fc ρ S).bind tru) g fuel ρ S) := by
  refine psI (ps_while hp hc hb) fun D σ H ⟨α, F, ρ, S, s, er, p⟩ => ?_
  have p : PostS W E α F S H (whl (fun ρ S => (fc ρ S).bind tru) g fuel ρ S) D := p
  generalize hfull : whl (fun ρ S => (fc ρ S).bind tru) g fuel ρ S = full at p
  refine ⟨fun m σ' H' => ∃ αc Fc ρc Sc, Ext α F S H αc Fc Sc H' ∧ Sr W αc Fc Sc H' ∧ EnvR W αc Fc Sc.length ρc σ' ∧ whl (fun ρ S => (fc ρ S).bind tru) g m ρc Sc = full, ⟨fuel, α, F, ρ, S, Ext.refl, s, er, hfull⟩, ?_⟩
  rintro m σ' H' ⟨αc, Fc, ρc, Sc, x1, s1, er1, hf⟩
  have p1 : PostS W E αc Fc Sc H' full D := PostS.rebase x1 p
  cases m with
  | zero => rw [← hf] at p1; exact p1.elim
  | succ m =>
    rw [← hf] at p1
    unfold whl at p1
    refine ⟨αc, Fc, ρc, Sc, s1, er1, ?_⟩
    show Post W E RelE αc Fc Sc H' ((fc ρc Sc).bind tru) _
    cases hcd : (fc ρc Sc).bind tru with
    | bad => rw [hcd] at p1; exact p1.elim
    | exc ee S' => rw [hcd] at p1; exact p1
    | ok k S2 =>
      rw [hcd] at p1
      show ∀ _ _ _ _, _
      intro k' α2 F2 H2 x2 s2 ek
      cases (show k = k' from ek)
      have p2 : PostS W E α2 F2 S2 H2 (if k = true then (match g ρc S2 with
        | .nx ρ S => whl (fun ρ S => (fc ρ S).bind tru) g m ρ S
        | .ct ρ S => whl (fun ρ S => (fc ρ S).bind tru) g m ρ S
        | .bk ρ S => .nx ρ S
        | r => r) else .nx ρc S2) D := PostS.rebase x2 p1
      unfold whl at hf
      rw [hcd] at hf
      have er2 := er1.ext x2
      cases k with
      | false =>
        rw [if_neg Bool.false_ne_true]
        rw [if_neg Bool.false_ne_true] at p2
        exact p2.here s2 er2
      | true =>
        rw [if_pos rfl]
        rw [if_pos rfl] at p2
        have hf : (match g ρc S2 with
          | .nx ρ S => whl (fun ρ S => (fc ρ S).bind tru) g m ρ S
          | .ct ρ S => whl (fun ρ S => (fc ρ S).bind tru) g m ρ S
          | .bk ρ S => .nx ρ S
          | r => r) = full := hf
        refine ⟨fun σ' H' => ∃ αc Fc ρc Sc, Ext α F S H αc Fc Sc H' ∧ Sr W αc Fc Sc H' ∧ EnvR W αc Fc Sc.length ρc σ' ∧ whl (fun ρ S => (fc ρ S).bind tru) g m ρc Sc = full, fun σ' H' w => ⟨m, Nat.lt_succ_self _, w⟩, α2, F2, ρc, S2, s2, er2, ?_⟩
        cases hg : g ρc S2 with
        | nx ρ3 S3 =>
          rw [hg] at hf
          exact fun σ3 α3 F3 H3 x3 s3 er3 => ⟨α3, F3, ρ3, S3, (x1.trans x2).trans x3, s3, er3, hf⟩
        | ct ρ3 S3 =>
          rw [hg] at hf
          exact fun σ3 α3 F3 H3 x3 s3 er3 => ⟨α3, F3, ρ3, S3, (x1.trans x2).trans x3, s3, er3, hf⟩
        | bk ρ3 S3 => rw [hg] at p2; exact p2
        | rt v S3 => rw [hg] at p2; exact p2
        | exc ee S3 => rw [hg] at p2; exact p2
        | bad => rw [hg] at p2; exact p2.elim
def forF (t : Tg) (fi : Env → Sto → Res (List Vl × Option (Nat × Cell))) (g : Env → Sto → RS) : Env → Sto → RS := fun ρ S => (fi ρ S).thn fun q S => (fors g t q.1 ρ (lock S q.2)).mapS fun S => unlock S q.2
theorem ds_for {iter : Expr} {bs : List Stmt} {t : Tg} {fi : Env → Sto → Res (List Vl × Option (Nat × Cell))} (hp : PassesOwn (model X.prog X.w) X.A X.env X.xe) (hc : X.calm = true) (hi : PI X tg iter (tDI W E fi)) (hg : PG X tg (gD W t)) (hb : PSs X bs (tDS W E g))
    (hs : ∀ x, foldedSetIterable iter X.env x = pure x) : PS X (.For tg iter bs [] pos) (tDS W E (forF t fi g)) := by
  refine psI (ps_for hp hc hi hg hb hs) fun D σ H ⟨α, F, ρ, S, s, er, p⟩ => ⟨α, F, ρ, S, s, er, (Post.thn (Rel := WalkR W) p).imp fun J H1 ⟨α1, F1, q, S1, x1, s1, ⟨wk, lkok⟩, p1⟩ => ?_⟩
  obtain ⟨xs, lk⟩ := q
  dsimp only at wk lkok p1
  have s1l : Sr W α1 F1 (lock S1 lk) H1 := lock_sr s1 fun n c h => (lkok n c h).1
  have e1 : EnvR W α1 F1 (lock S1 lk).length ρ σ := by rw [lock_len]; exact er.ext x1
  have ulen : ∀ (S : Sto), (unlock S lk).length = S.length := fun S => by cases lk <;> simp [unlock]
  generalize hfull : fors g t xs ρ (lock S1 lk) = full at p1
  -- what the loop's ends mean once the lock is gone
  have outN : ∀ {ρ' S' σ' α' F' H'}, full = .nx ρ' S' → Ext α1 F1 (lock S1 lk) H1 α' F' S' H' → Sr W α' F' S' H' → EnvR W α' F' S'.length ρ' σ' → D.nx σ' H' := fun {ρ' S' σ' α' F' H'} e x s' er' => by
    rw [e] at p1
    obtain ⟨s6, x6⟩ := unlock_opt s1 lkok x s'
    exact p1 σ' α' F' H' x6 s6 (by rw [ulen]; exact er')
  refine ⟨fun i m σ' H' => m = xs.length - i ∧ i ≤ xs.length ∧ ∃ αc Fc ρc Sc, Ext α1 F1 (lock S1 lk) H1 αc Fc Sc H' ∧ Sr W αc Fc Sc H' ∧ EnvR W αc Fc Sc.length ρc σ' ∧ fors g t (xs.drop i) ρc Sc = full,
    ⟨xs.length, rfl, Nat.zero_le _, α1, F1, ρ, lock S1 lk, Ext.refl, s1l, e1, hfull⟩, ?_⟩
  rintro i m σ' H' ⟨rfl, hi', αc, Fc, ρc, Sc, x2, s2, er2, hf2⟩
  by_cases hlt : i < xs.length
  · have hx : xs[i]? = some xs[i] := List.getElem?_eq_getElem hlt
    obtain ⟨go, yl⟩ := wk.turn i xs[i] hx αc Fc Sc H' x2 s2
    rw [List.drop_eq_getElem_cons hlt] at hf2
    unfold fors at hf2
    refine .inr ⟨go, fun σ'' H'' => xs.length - (i + 1) = xs.length - (i + 1) ∧ i + 1 ≤ xs.length ∧ ∃ αc Fc ρc Sc, Ext α1 F1 (lock S1 lk) H1 αc Fc Sc H'' ∧ Sr W αc Fc Sc H'' ∧ EnvR W αc Fc Sc.length ρc σ'' ∧ fors g t (xs.drop (i + 1)) ρc Sc = full, fun σ'' H'' w => ⟨_, by omega, w⟩, fun v H2 y => ?_⟩
    obtain ⟨F2, x3, s3, r3⟩ := yl v H2 y
    have e3 := er2.ext x3
    cases hb : bindT t xs[i] ρc with
    | none =>
      rw [hb] at hf2
      rw [← hf2] at p1
      exact p1.elim
    | some ρ' =>
      rw [hb] at hf2
      simp only at hf2
      refine ⟨αc, F2, Sc, xs[i], ρc, ρ', s3, e3, r3, hb, fun σ'' st => ⟨αc, F2, ρ', Sc, s3, st.env, ?_⟩⟩
      have x23 := x2.trans x3
      cases hgg : g ρ' Sc with
      | nx ρ3 S3 =>
        rw [hgg] at hf2
        exact fun σ3 α3 F3 H3 x4 s4 er4 => ⟨rfl, hlt, α3, F3, ρ3, S3, x23.trans x4, s4, er4, hf2⟩
      | ct ρ3 S3 =>
        rw [hgg] at hf2
        exact fun σ3 α3 F3 H3 x4 s4 er4 => ⟨rfl, hlt, α3, F3, ρ3, S3, x23.trans x4, s4, er4, hf2⟩
      | bk ρ3 S3 =>
        rw [hgg] at hf2
        exact fun σ3 α3 F3 H3 x4 s4 er4 => outN hf2.symm (x23.trans x4) s4 er4
      | rt v S3 =>
        rw [hgg] at hf2
        intro w α3 F3 H3 x4 s4 r4
        rw [← hf2] at p1
        obtain ⟨s6, x6⟩ := unlock_opt s1 lkok (x23.trans x4) s4
        exact p1 w α3 F3 H3 x6 s6 (by rw [ulen]; exact r4)
      | exc ee S3 =>
        rw [hgg] at hf2
        intro c d α3 F3 H3 x4 s4 r4
        rw [← hf2] at p1
        obtain ⟨s6, x6⟩ := unlock_opt s1 lkok (x23.trans x4) s4
        exact p1 c d α3 F3 H3 x6 s6 r4
      | bad =>
        rw [hgg] at hf2
        rw [← hf2] at p1
        exact p1.elim
  · have hi2 : i = xs.length := by omega
    subst hi2
    rw [List.drop_length] at hf2
    unfold fors at hf2
    exact .inl ⟨wk.done αc Fc Sc H' x2 s2, outN hf2.symm x2 s2 er2⟩
/-- cells become data -/
def frzF (is : List Nat) (f : Env → Sto → RS) : Env → Sto → RS := fun ρ S => match frz is ρ S with
    | some (ρ, S) => f ρ S
    | none => .bad
theorem frz_read {H : Hp} {σ : L2.St} : ∀ (is : List Nat) {α F ρ S}, Sr W α F S H → EnvR W α F S.length ρ σ → ∀ {ρ' S'}, frz is ρ S = some (ρ', S') → ∃ F', Ext α F S H α F' S' H ∧ Sr W α F' S' H ∧ EnvR W α F' S'.length ρ' σ
  | [], α, F, ρ, S, s, er, ρ', S', h => by
    simp only [frz, Option.some.injEq, Prod.mk.injEq] at h
    obtain ⟨rfl, rfl⟩ := h
    exact ⟨F, Ext.refl, s, er⟩
  | i :: is, α, F, ρ, S, s, er, ρ', S', h => by
    unfold frz at h
    cases q : (ρ[i]?).bind id with
    | none => rw [q] at h; exact frz_read is s er h
    | some v =>
      rw [q] at h
      have q' : ρ[i]? = some (some v) := by
        cases z : ρ[i]? with
        | none => rw [z] at q; cases q
        | some o => rw [z] at q; exact congrArg some q
      obtain ⟨w, ew, r⟩ := er.at_ i v q'
      dsimp only at h
      have setv : ∀ {F1 S1 d}, Ext α F S H α F1 S1 H → Rp W F1 d w → EnvR W α F1 S1.length (ρ.set i (some (.d d))) σ := fun {F1 S1 d} x rp => by
        have := EnvR.set (v := .d d) (w := w) (er.ext x) rp i
        have e : σ.set i (some w) = σ := by
          apply List.ext_getElem?
          intro j
          by_cases hij : i = j
          · subst hij
            rw [List.getElem?_set_self (List.getElem?_eq_some_iff.mp ew).1, ew]
          · rw [List.getElem?_set_ne hij]
        rw [e] at this
        exact this
      cases hf : freeze v S with
      | none => rw [hf] at h; cases h
      | some q2 =>
        obtain ⟨d, S1⟩ := q2
        rw [hf] at h
        obtain ⟨F1, s1, x1, rp⟩ := s.freeze r hf
        obtain ⟨F2, x2, s2, e2⟩ := frz_read is s1 (setv x1 rp) h
        exact ⟨F2, x1.trans x2, s2, e2⟩
theorem ds_frz {is : List Nat} (h : PS X st (tDS W E g)) : PS X st (tDS W E (frzF is g)) := psI h fun D σ H ⟨α, F, ρ, S, s, er, p⟩ => by
  unfold frzF at p
  cases hq : frz is ρ S with
  | none => rw [hq] at p; exact p.elim
  | some q =>
    obtain ⟨ρ', S'⟩ := q
    rw [hq] at p
    obtain ⟨F', x, s', er'⟩ := frz_read is s er hq
    exact ⟨α, F', ρ', S', s', er', PostS.rebase x p⟩
/-! ### fields stored, d[k] op= e, x, y = a, b, x = {..: ..} -/
def sfldF (k : Nat) (cs : List Nat) (fo fe : Env → Sto → Res Vl) : Env → Sto → RS := fun ρ S => (fe ρ S).thn fun v S => (fo ρ S).thn fun x S => match setField x v k cs S with
    | some S => .nx ρ S
    | none => .bad
theorem setField_of {f : Str} {k : Nat} {cs : List Nat} (ok : FldOk X.K W f k cs) (s : Sr W α F S H) {ρ : Env} {σ : L2.St} {D : Ends} (er : EnvR W α F S.length ρ σ) (rx : VlR W α F S.length x v) (ry : VlR W α F S.length y u) (p : PostS W E α F S H (match setField x y k cs S with | some S => .nx ρ S | none => .bad) D) :
    ∃ a c dx fs, c ∈ cs ∧ v = .ref a ∧ H a = some (.ins (W.ca c) dx fs) ∧ Cls X.K (W.ca c) ∧ NoAttr X.K (W.ca c) f ∧ fs.length < 1000 ∧ D.nx σ (upd H a (.ins (W.ca c) dx (putF f u fs))) := by
  cases x with
  | d x => exact p.elim
  | p n =>
    obtain ⟨ev, hl⟩ := (show v = .ref (α n) ∧ n < S.length from rx)
    simp only [setField] at p
    cases hn : S[n]? with
    | none => rw [hn] at p; exact p.elim
    | some c =>
      rw [hn] at p
      cases c with
      | ins c fs =>
        simp only at p
        by_cases hz : (cs.contains c && decide (fs.length < 1000)) = true
        · rw [if_pos hz] at p
          rw [Bool.and_eq_true] at hz
          obtain ⟨c1, c2⟩ := ok.cl c (by simpa using hz.1)
          obtain ⟨dx, us, ho, rr⟩ := s.cel n _ hn
          obtain ⟨us', h1, h2⟩ := kwPut_rel ok.inj k ry rr
          rw [ok.nm] at h1
          obtain ⟨s', x'⟩ := s.setC (n := n) (o := .ins (W.ca c) dx (putF f u ((fs.map fun p => W.nm p.1).zip us))) (c := .ins c (kwPut fs k y)) ⟨_, hn, fun z => nomatch z⟩ ⟨dx, us', by rw [upd_same, h1], h2⟩
          refine ⟨_, c, dx, _, by simpa using hz.1, ev, ho, c1, c2, ?_, p σ α F _ x' s' (er.ext x')⟩
          have := rr.length
          simp only [List.length_zip, List.length_map] at this ⊢
          have := of_decide_eq_true hz.2
          omega
        · rw [if_neg hz] at p; exact p.elim
      | _ => exact p.elim
theorem ds_fld {o : Expr} {f : Str} {k : Nat} {cs : List Nat} {p1 : Pos} {fo fe : Env → Sto → Res Vl} (ok : FldOk X.K W f k cs) (hl : isLc e = false) (ho : PE X o (tD W E fo)) (he : PE X e (tD W E fe)) : PS X (.Assign [.Attribute o f p1] e pos) (tDS W E (sfldF k cs fo fe)) :=
  psI (ps_fld ho he (sw_not hl)) fun D σ H ⟨α, F, ρ, S, s, er, p⟩ => ⟨α, F, ρ, S, s, er, (Post.thn (Rel := VlX W) p).imp fun v H1 ⟨α1, F1, x, S1, x1, s1, r1, p1⟩ =>
    ⟨α1, F1, ρ, S1, s1, er.ext x1, (Post.thn (Rel := VlX W) p1).imp fun o H2 ⟨α2, F2, y, S2, x2, s2, r2, p2⟩ => by
      obtain ⟨a, c, dx, fs, _, h⟩ := setField_of ok s2 ((er.ext x1).ext x2) r2 (r1.ext x2) p2
      exact ⟨a, _, dx, fs, h⟩⟩⟩
theorem augop_ok (o : Op) (x y : Vl) (S : Sto) : augop o x y S = .bad ∨ ∃ d, augop o x y S = .ok (.d d) S := by
  have i : ∀ C g, opI C g x y S = .bad ∨ ∃ d, opI C g x y S = .ok (.d d) S := fun C g => by
    unfold opI
    repeat' split
    all_goals first | exact .inl rfl | exact .inr ⟨_, rfl⟩
  cases o with
  | add =>
    unfold augop
    repeat' split
    all_goals first | exact .inl rfl | exact .inr ⟨_, rfl⟩ | contradiction
  | pow => exact .inl rfl
  | _ => exact i _ _
def fldaugF (k : Nat) (cs : List Nat) (o : Op) (fo fe : Env → Sto → Res Vl) : Env → Sto → RS := fun ρ S => (fo ρ S).thn fun x S => (field x k cs S).thn fun u S => (fe ρ S).thn fun y S => (augop o u y S).thn fun z S => match setField x z k cs S with
    | some S => .nx ρ S
    | none => .bad
theorem field_thn {k : Nat} {cs : List Nat} {g : Vl → Sto → RS} {D : Ends} (p : PostS W E α F S H ((field x k cs S).thn g) D) : ∃ z, field x k cs S = .ok z S ∧ PostS W E α F S H (g z S) D := by
  have : field x k cs S = .bad ∨ ∃ z, field x k cs S = .ok z S := by
    unfold field
    repeat' split
    all_goals first | exact .inl rfl | exact .inr ⟨_, rfl⟩
  rcases this with e | ⟨z, e⟩
  · rw [e] at p; exact p.elim
  · rw [e] at p; exact ⟨z, e, p⟩
theorem ds_fldaug {op : Operator} {o : Expr} {b : Op} {f : Str} {k c0 : Nat} {p1 : Pos} {fo fe : Env → Sto → Res Vl} (ok : FldOk X.K W f k [c0]) (hop : cOp op = some b) (ho : PE X o (tD W E fo)) (he : PE X e (tD W E fe)) : PS X (.AugAssign (.Attribute o f p1) op e pos) (tDS W E (fldaugF k [c0] b fo fe)) := by
  obtain ⟨ti, h1, h2⟩ := in_aug (X := X) (W := W) (E := E) hop
  refine psI (ps_fldaug ho he (rd := ti) h1) fun D σ H ⟨α, F, ρ, S, s, er, p⟩ => ⟨α, F, ρ, S, s, er, (Post.thn (Rel := VlX W) p).imp fun v H1 ⟨α1, F1, x, S1, x1, s1, r1, p1⟩ => ?_⟩
  obtain ⟨uu, hu, p1⟩ := field_thn p1
  obtain ⟨_, a, c, dx, fs, w, hc, e1, q1, q2, q3⟩ := field_at ok s1 r1 hu
  obtain ⟨c1, c2⟩ := ok.cl c hc
  refine ⟨a, _, dx, fs, w, e1, q1, c1, c2, q2, α1, F1, ρ, S1, s1, er.ext x1, (Post.thn (Rel := VlX W) p1).imp fun y H2 ⟨α2, F2, yy, S2, x2, s2, r2, p2⟩ => ?_⟩
  refine h2 s2 (q3.ext x2) r2 ((Post.thn (Rel := VlX W) p2).imp fun z H3 ⟨α3, F3, zz, S3, x3, s3, r3, p3⟩ => ?_)
  obtain ⟨a', c', dx', fs', hc', e2, t1, t2, t3, t4, t5⟩ := setField_of ok s3 (((er.ext x1).ext x2).ext x3) ((r1.ext x2).ext x3) r3 p3
  rw [e1] at e2
  cases e2
  have ec : c' = c := by rw [List.mem_singleton.mp hc', List.mem_singleton.mp hc]
  subst ec
  exact ⟨dx', fs', t1, t4, t5⟩
def parF (i j : Nat) (fa fb : Env → Sto → Res Vl) : Env → Sto → RS := fun ρ S => (fa ρ S).thn fun v S => (fb ρ S).thn fun w S => .nx ((ρ.set i (some v)).set j (some w)) S
theorem ds_par {i j : Nat} {n m : Str} {px py pt : Pos} {kt k2 : Nat} {pt2 : Pos} (hc : X.calm = true) (hN : X.N.Nodup) (hi : X.N[i]? = some n) (hj : X.N[j]? = some m) (hij : i ≠ j) (hx : X.env.scope.names.lookup n = some .local) (hy : X.env.scope.names.lookup m = some .local)
    (hw : swappedStores [.Tuple [.Name n px, .Name m py] kt pt] (.Tuple [a, b] k2 pt2) X.env = pure (some [n, m])) (hs : notStar a = true) (hs2 : notStar b = true) (ha : PE X a (tD W E fa)) (hb : PE X b (tD W E fb)) :
    PS X (.Assign [.Tuple [.Name n px, .Name m py] kt pt] (.Tuple [a, b] k2 pt2) pos) (tDS W E (parF i j fa fb)) :=
  psI (ps_par hc hN hi hj hij hx hy (da_cons hs ha (da_cons hs2 hb da_nil)) hw) fun D σ H ⟨α, F, ρ, S, s, er, p⟩ => by
    refine ⟨α, F, ρ, S, s, er, ?_⟩
    have p : PostS W E α F S H ((fa ρ S).thn fun v S => (fb ρ S).thn fun w S => .nx ((ρ.set i (some v)).set j (some w)) S) D := p
    have e : (consF fa (consF fb nilF) ρ S) = (fa ρ S).bind fun v S => (fb ρ S).bind fun w S => .ok [v, w] S := by
      unfold consF
      cases fa ρ S with
      | ok v S1 => simp only [Res.bind]; cases fb ρ S1 <;> rfl
      | _ => rfl
    rw [e]
    cases h1 : fa ρ S with
    | bad => rw [h1] at p; exact p.elim
    | exc ee S' => rw [h1] at p; exact p
    | ok v S1 =>
      rw [h1] at p
      have p : PostS W E α F S H ((fb ρ S1).thn fun w S => .nx ((ρ.set i (some v)).set j (some w)) S) D := p
      show Post W E (VlXs W) α F S H ((fb ρ S1).bind fun w S => .ok [v, w] S) _
      cases h2 : fb ρ S1 with
      | bad => rw [h2] at p; exact p.elim
      | exc ee S' => rw [h2] at p; exact p
      | ok w S2 =>
        rw [h2] at p
        intro us α2 F2 H2 x2 s2 rs
        obtain ⟨v', w', rfl, r1, r2⟩ := rs.two
        exact ⟨v', w', rfl, p _ α2 F2 H2 x2 s2 (((er.ext x2).set r1 i).set r2 j)⟩
theorem swap_of {n m : Str} {px py pt : Pos} {kt k2 : Nat} {pt2 : Pos} {env : PySem.Env} (hk : env.scope.kind = .function) (hx : env.scope.names.lookup n = some .local) (hy : env.scope.names.lookup m = some .local) (hne : (n == m) = false) (hl : (px.line == py.line) = true) (hs : notStar a = true) (hs2 : notStar b = true)
    (h1 : [a, b].all (foldedForSure 8) = false) (h2 : [a, b].all (constantsAlone 8) = false) : swappedStores [.Tuple [.Name n px, .Name m py] kt pt] (.Tuple [a, b] k2 pt2) env = pure (some [n, m]) := by
  have kn : env.kindOf n = some .local := hx
  have km : env.kindOf m = some .local := hy
  have hb : env.blockKind = .function := by unfold PySem.Env.blockKind; rw [hk]; rfl
  have st : ∀ c : Expr, notStar c = true → (match c with | .Starred .. => true | _ => false) = false := fun c h => by cases c <;> first | rfl | (simp [notStar] at h)
  have pl : py.line = px.line := (beq_iff_eq.mp hl).symm
  have hne2 : (m == n) = false := by
    cases q : m == n with
    | false => rfl
    | true => rw [beq_iff_eq.mp q] at hne; simp at hne
  unfold swappedStores
  simp [hb, kn, km, h1, h2, st a hs, st b hs2, Expr.pos, pl, List.eraseDups, List.eraseDupsBy, List.eraseDupsBy.loop, hne, hne2]
  intro h
  exfalso
  rcases h with h | h
  · clear st h1 h2
    cases a <;> first | (cases h; done) | (cases hs; done)
  · clear st h1 h2
    cases b <;> first | (cases h; done) | (cases hs2; done)
def daugF (o : Op) (fd fk fe : Env → Sto → Res Vl) : Env → Sto → RS := fun ρ S => (fd ρ S).thn fun x S => (fk ρ S).thn fun i S => (dgetR x i S).thn fun u S => (fe ρ S).thn fun y S => (augop o u y S).thn fun z S => match setItemD x i z S with
    | some S => .nx ρ S
    | none => .bad
theorem dgetR_of (s : Sr W α F S H) (rx : VlR W α F S.length x v) (ry : VlR W α F S.length y u) {g : Vl → Sto → RS} {D : Ends} (p : PostS W E α F S H ((dgetR x y S).thn g) D) : ∃ a z w, v = .ref a ∧ DGet H a u (some w) ∧ VlR W α F S.length z w ∧ PostS W E α F S H (g z S) D := by
  unfold dgetR at p
  cases y with
  | p n => exact p.elim
  | d k =>
    dsimp only at p
    cases hg : getOf x k S with
    | none => rw [hg] at p; exact p.elim
    | some o =>
      rw [hg] at p
      obtain ⟨a, w, e, g, h⟩ := get_of s rx ry hg
      rcases h with ⟨rfl, rfl⟩ | ⟨z, q, rfl, rfl, hr⟩
      · exact p.elim
      · exact ⟨a, z, q, e, g, hr, p⟩
theorem aug_store {i : Expr} (h : isSl i = false) (ov iv new : Value) : augStore i ov iv new = (do holding [new, ov, iv] (PySem.setItem ov iv new); release [new, ov, iv] []; pure .next) := by
  cases i <;> first | rfl | (simp [isSl] at h)
theorem ds_daug (hu : X.A.units + 100 < cLine) {op : Operator} {b : Op} {o i : Expr} {p1 : Pos} {fo fi fe : Env → Sto → Res Vl} (hsl : isSl i = false) (hop : cOp op = some b) (ho : PE X o (tD W E fo)) (hi : PE X i (tD W E fi)) (he : PE X e (tD W E fe)) : PS X (.AugAssign (.Subscript o i p1) op e pos) (tDS W E (daugF b fo fi fe)) := by
  obtain ⟨ti, h1, h2⟩ := in_aug (X := X) (W := W) (E := E) hop
  refine psI (ps_daug (by omega) ho hi he (rd := ti) h1 (aug_store hsl)) fun D σ H ⟨α, F, ρ, S, s, er, p⟩ => ⟨α, F, ρ, S, s, er, (Post.thn (Rel := VlX W) p).imp fun v H1 ⟨α1, F1, x, S1, x1, s1, r1, p1⟩ =>
    ⟨α1, F1, ρ, S1, s1, er.ext x1, (Post.thn (Rel := VlX W) p1).imp fun k H2 ⟨α2, F2, y, S2, x2, s2, r2, p2⟩ => ?_⟩⟩
  obtain ⟨a, z, w, e1, g, rz, p2⟩ := dgetR_of s2 (r1.ext x2) r2 p2
  refine ⟨a, w, e1, g, α2, F2, ρ, S2, s2, (er.ext x1).ext x2, (Post.thn (Rel := VlX W) p2).imp fun q H3 ⟨α3, F3, zz, S3, x3, s3, r3, p3⟩ => ?_⟩
  refine h2 s3 (rz.ext x3) r3 ((Post.thn (Rel := VlX W) p3).imp fun q H4 ⟨α4, F4, z4, S4, x4, s4, r4, p4⟩ => ?_)
  have x24 := x3.trans x4
  have r1 := (r1.ext x2).ext x24
  have r2 := r2.ext x24
  have er4 := ((er.ext x1).ext x2).ext x24
  cases x with
  | d x => exact p4.elim
  | p n =>
    cases y with
    | p m => exact p4.elim
    | d y =>
      obtain ⟨e2, hlt⟩ := (show v = .ref (α4 n) ∧ n < S4.length from r1)
      rw [e1] at e2
      cases e2
      dsimp only [setItemD] at p4
      cases hn : S4[n]? with
      | none => rw [hn] at p4; exact p4.elim
      | some c =>
        rw [hn] at p4
        cases c with
        | dct t kvs =>
          simp only at p4
          by_cases hk : (keyOk t y && decide (kvs.length < most)) = true
          · rw [if_pos hk] at p4
            rw [Bool.and_eq_true] at hk
            obtain ⟨ws, hd, rr⟩ := s4.cel n _ hn
            obtain ⟨o', ws', g', hd', rr'⟩ := dput_of hd rr hk.1 r2 s4.sub r4 (of_decide_eq_true hk.2)
            obtain ⟨s', x'⟩ := s4.setC (n := n) (o := o') (c := .dct t (kvPut kvs y z4)) ⟨_, hn, fun z => nomatch z⟩ ⟨ws', hd', rr'⟩
            exact ⟨_, g', p4 σ α4 F4 _ x' s' (er4.ext x')⟩
          · rw [if_neg hk] at p4
            exact p4.elim
        | _ => exact p4.elim
/-- x = {k: v for ..} -/
theorem ps_setDc {iter ke ve : Expr} {ifs : List Expr} {scope : Scope} {own : List (Str × Nat)} {wi : TI} {g' : TG} {tt : TT} {tk tv : TE} {i : Nat} {n : Str} {py pos' : Pos} (hc : X.calm = true) (hN : X.N.Nodup) (hi : X.N[i]? = some n) (hloc : X.env.scope.names.lookup n = some .local)
    (hsw : swapsWith (.DictComp ke ve [⟨tg, iter, ifs, 0⟩] scope pos) (some (.Name n py)) pos'.line X.env = pure true) (hit : PI X tg iter wi) (ok : BlkOk X.N X.env.scope scope own)
    (hg : ∀ (s : Shared) (H : Hp) (C : Addr) (cl : List (Str × Addr)) (fp : List Addr), PG (X.blk s H scope (compEnvC scope cl C X.env) fp) tg g')
    (ht : ∀ (s : Shared) (H : Hp) (C : Addr) (cl : List (Str × Addr)) (fp : List Addr), PTs (X.blk s H scope (compEnvC scope cl C X.env) fp) ifs tt)
    (hk : ∀ (s : Shared) (H : Hp) (C : Addr) (cl : List (Str × Addr)) (fp : List Addr), PE (X.blk s H scope (compEnvC scope cl C X.env) fp) ke tk)
    (hv : ∀ (s : Shared) (H : Hp) (C : Addr) (cl : List (Str × Addr)) (fp : List Addr), PE (X.blk s H scope (compEnvC scope cl C X.env) fp) ve tv)
    (hs : ∀ x, foldedSetIterable iter X.env x = pure x) : PS X (.Assign [.Name n py] (.DictComp ke ve [⟨tg, iter, ifs, 0⟩] scope pos) pos') (tAsg (tDc wi g' tt tk tv (own.map (·.2))) (gName i)) := by
  refine ⟨fun pins sh σ H D I asked => ?_⟩
  rw [exec_Assign_Name_used _ _ _ _ hsw]
  refine wpAny_bind (wpAny_standAt (wpAny_bind ?_))
  show wpAny _ X.A (do let _ ← comprehension (.DictComp ke ve [⟨tg, iter, ifs, 0⟩] scope pos) scope X.env (firstIterPos [⟨tg, iter, ifs, 0⟩] pos) newDict false (eval iter X.env) (some (assign (.Name n py) X.env))) _ _ sh
  have asked : tDc wi g' tt tk tv (own.map (·.2)) σ H (fun x H1 => gName i x σ H1 D.nx) := asked
  refine wpAny_bind (thn (dc_core (Qf := fun _ s' => SP X pins D .next s') hc hN I hit ok hg ht hk hv hs asked fun d0 C s' m H' I' q hn free => ?_) fun _ s' hq => wpAny_pure (wpAny_pure hq))
  show wpAny _ _ (assign (.Name n py) X.env (.ref d0)) _ _ _
  refine wpAny_assign_Name (store_ok2 (v := V.ref d0) I' hN hi (.inl hloc) rfl (fun s2 I2 ⟨a, sb, ha⟩ => ?_) (.inr hloc))
  obtain ⟨g0, g1, g2, g3, g4, g5⟩ := free
  have apart : C ≠ a := by
    rcases ha with z | z
    · rw [z]; exact g1
    · exact fun e => g4 n a z e.symm
  exact ⟨m, hn.sameBut sb apart, fun h3 sb3 => ⟨_, H', I2.turned (t' := s2.toks) (fun b o nb e => (sb3.2 b nb).trans e) g0 g1 g3 g4 g5, q⟩⟩
theorem sw_dc {ke ve : Expr} {gs : List Comprehension} {scope : Scope} {py : Pos} {n : Str} {l : Nat} {env : PySem.Env} (hk : env.scope.kind = .function) (hy : env.scope.names.lookup n = some .local) (hl : (py.line == pos.line) = true)
    (ha : (scope.names.any fun (m, k) => m == n && (k == .local || k == .cell)) = false) : swapsWith (.DictComp ke ve gs scope pos) (some (.Name n py)) l env = pure true := by
  have kn : env.kindOf n = some .local := hy
  have hb : env.blockKind = .function := by unfold PySem.Env.blockKind; rw [hk]; rfl
  unfold swapsWith
  simp only [hb, kn, ha, Expr.pos, hl]
  rfl
theorem ds_asgDc {iter ke ve : Expr} {ifs : List Expr} {scope : Scope} {own : List (Str × Nat)} {cell : Bool} {t : Tg} {fi : Env → Sto → Res (List Vl × Option (Nat × Cell))} {fcond : Env → Sto → Res Bool} {fk fv : Env → Sto → Res Vl} {i : Nat} {n : Str} {py pos' : Pos}
    (hc : X.calm = true) (hN : X.N.Nodup) (hy : X.N[i]? = some n) (hyl : X.env.scope.names.lookup n = some .local) (hsw : swapsWith (.DictComp ke ve [⟨tg, iter, ifs, 0⟩] scope pos) (some (.Name n py)) pos'.line X.env = pure true)
    (hi : PI X tg iter (tDI W E fi)) (ok : BlkOk X.N X.env.scope scope own)
    (hg : ∀ (s : Shared) (H : Hp) (C : Addr) (cl : List (Str × Addr)) (fp : List Addr), PG (X.blk s H scope (compEnvC scope cl C X.env) fp) tg (gD W t))
    (ht : ∀ (s : Shared) (H : Hp) (C : Addr) (cl : List (Str × Addr)) (fp : List Addr), PTs (X.blk s H scope (compEnvC scope cl C X.env) fp) ifs (tDT W E0 fcond))
    (hk : ∀ (s : Shared) (H : Hp) (C : Addr) (cl : List (Str × Addr)) (fp : List Addr), PE (X.blk s H scope (compEnvC scope cl C X.env) fp) ke (tD W E0 fk))
    (hv : ∀ (s : Shared) (H : Hp) (C : Addr) (cl : List (Str × Addr)) (fp : List Addr), PE (X.blk s H scope (compEnvC scope cl C X.env) fp) ve (tD W E0 fv))
    (hs : ∀ x, foldedSetIterable iter X.env x = pure x) (hsub : ∀ i ∈ t.slots, i ∈ own.map (·.2)) :
    PS X (.Assign [.Name n py] (.DictComp ke ve [⟨tg, iter, ifs, 0⟩] scope pos) pos') (tDS W E (asgF (.var i) (dcAll cell t (own.map (·.2)) fi fcond fk fv))) :=
  psI (ps_setDc hc hN hy hyl hsw hi ok hg ht hk hv hs) fun D σ H ⟨α, F, ρ, S, s, er, p⟩ => dc_read hsub ⟨α, F, ρ, S, s, er, (Post.thn (Rel := VlX W) p).imp fun v H1 ⟨α1, F1, x, S1, x1, s1, r1, p1⟩ => p1.here s1 ((er.ext x1).set r1 i)⟩
end
end Z
end

section
set_option maxHeartbeats 1000000
/-! Z15: the compiled expressions say what the text does. -/
namespace Z
open PySem L2

theorem _root_.L2.Room.u100 {k : Nat} {A : Around} (r : Room k A) : A.units + 100 < cLine := by have := r.un; omega
/-- what is known where a piece of text runs -/
structure Cxt (X : Cx) (C : Cs) (W : Wd) (G : Gm) (rc : Nat → List Vl → Sto → Res Vl) (E : XK) (T : CXT) (k : Nat) : Prop where
  K : W.K = X.K
  calm : X.calm = true
  sc : X.env.scope = C.sc
  N : X.N = C.N
  nd : C.N.Nodup
  fn : ∀ x, Loc C.sc x → ownB C.wr x = true → X.fn x = true ∨ C.sc.names.lookup x = some .local
  room : Room k X.A
  gb : ∀ x, x ∈ C.gb → X.mg x = none
  gd : ∀ x f, C.gd.lookup x = some f → ∃ fd ps, FnOk X.prog X.w X.K X.mg X.base T k (W.fa f) fd ps (spF W rc f) ∧ X.mg x = some (.ref (W.fa f)) ∧ PySem.W.keepIn X.K (.ref (W.fa f)) = true ∧ Binds X.K fd ps []
  gc : ∀ x g, C.gc.lookup x = some g → ∃ v u, X.mg x = some u ∧ RelV v u ∧ ∀ F, Rp W F (G.con g) v
  w : W.w = X.w
  fl : ∀ f i cs, C.fl.lookup f = some (i, cs) → FldOk X.K W f i cs
  mt : ∀ m tab, C.mt.lookup m = some tab → MtOk X W T k rc m tab
  cls : ∀ x c f, C.cls.lookup x = some (c, f) → ∃ j fd ps, j + 1 ≤ k ∧ Mk X.K (W.ca c) (W.fa f) ∧ FnOk X.prog X.w X.K X.mg X.base T j (W.fa f) fd ps (spF W rc f) ∧ X.mg x = some (.ref (W.ca c)) ∧ Binds X.K fd ps []
  hv : ∀ f, G.callable f = true → ∃ fd ps, FnOk X.prog X.w X.K X.mg X.base T k (W.fa f) fd ps (spF W rc f) ∧ PySem.W.keepIn X.K (.ref (W.fa f)) = true ∧ Binds X.K fd ps []
  pas : Passes T X E
  pas0 : ∀ X', Passes T X' E0
  own : PassesOwn (model X.prog X.w) X.A X.env X.xe

section
variable {X : Cx} {C : Cs} {W : Wd} {G : Gm} {rc : Nat → List Vl → Sto → Res Vl} {E : XK} {T : CXT} {k : Nat}
theorem findN_at {N : List Str} {x : Str} {i : Nat} (h : findN N x = some i) : N[i]? = some x := by
  unfold findN at h
  obtain ⟨hl, hp, _⟩ := List.findIdx?_eq_some_iff_getElem.mp h
  rw [List.getElem?_eq_getElem hl, beq_iff_eq.mp hp]
theorem vis_of {sc : Scope} {x : Str} (h : visB sc x = true) : Vis sc x := by
  unfold visB at h
  split at h
  · rename_i e; exact .inl e
  · rename_i e; exact .inr (.inl e)
  · rename_i e; exact .inr (.inr e)
  · cases h
theorem loc_of {sc : Scope} {x : Str} (h : locB sc x = true) : Loc sc x := by
  unfold locB at h
  split at h
  · rename_i e; exact .inl e
  · rename_i e; exact .inr e
  · cases h
theorem glb_of {sc : Scope} {x : Str} (h : glB sc x = true) : sc.names.lookup x = some .globalImplicit := by
  unfold glB at h
  split at h
  · assumption
  · cases h
theorem Cxt.gl (cx : Cxt X C W G rc E T k) {x : Str} (h : glB C.sc x = true) : Gl X x := by
  show X.env.scope.names.lookup x = _
  rw [cx.sc]; exact glb_of h
theorem not_beq {x y : Str} (h : (!(x == y)) = true) : (x == y) = false := by
  cases e : x == y <;> simp [e] at h ⊢
structure Blt (X : Cx) (x : Str) : Prop where
  g : Gl X x
  m : X.mg x = none
  n : x ≠ "__name__"
  d : (x == ("__debug__" : Str)) = false
theorem Cxt.blt (cx : Cxt X C W G rc E T k) {x : Str} (h : bltB C x = true) : Blt X x := by
  unfold bltB at h
  simp only [Bool.and_eq_true] at h
  exact ⟨cx.gl h.1.1.1, cx.gb x (by simpa using h.1.1.2), fun e => by rw [e] at h; exact absurd h.2 (by decide), not_beq h.1.2⟩
theorem relS_loc {scope sc : Scope} {x : Str} (h : locB scope x = true) : scope.names.lookup x = some .cell ∨ (relS scope sc).names.lookup x = some .local := by
  rcases loc_of h with e | e
  · exact .inr (lookup_relS_keep (by decide) e)
  · exact .inl e
/-- inside a comprehension -/
theorem Cxt.blk (cx : Cxt X C W G rc E T k) (scope : Scope) (s : Shared) (H : Hp) (A : Addr) (cl : List (Str × Addr)) (fp : List Addr) :
    Cxt (X.blk s H scope (compEnvC scope cl A X.env) fp) { C with sc := relS scope C.sc, wr := some scope } W G rc E0 T k where
  K := cx.K
  calm := cx.calm
  sc := by show relS scope X.env.scope = _; rw [cx.sc]
  N := cx.N
  nd := cx.nd
  fn := fun x _ h => (relS_loc (scope := scope) h).imp (fun e => by show (scope.names.lookup x == some .cell) = true; rw [e]; rfl) id
  room := cx.room
  gb := cx.gb
  gd := cx.gd
  gc := cx.gc
  w := cx.w
  fl := cx.fl
  mt := fun m tab h => let q := cx.mt m tab h; ⟨q.nm, q.fn⟩
  cls := cx.cls
  hv := cx.hv
  pas := cx.pas0 _
  pas0 := cx.pas0
  own := PySem.PassesOwn.never
theorem Cxt.tg (cx : Cxt X C W G rc E T k) : ∀ n, (∀ {e : Expr} {t : Tg}, cTg C n e = some t → PG X e (gD W t) ∧ notStar e = true) ∧ (∀ {es : List Expr} {ts : List Tg}, cTgs C n es = some ts → PGs X es (gDs W ts) ∧ ts.length = es.length)
  | 0 => by
    refine ⟨fun {e t} h => ?_, fun {es ts} h => ?_⟩
    · rw [cTg.eq_def] at h
      cases h
    · cases es with
      | nil => rw [cTgs.eq_def] at h; cases h; exact ⟨dgs_nil, rfl⟩
      | cons e es => rw [cTgs.eq_def] at h; cases h
  | n + 1 => by
    obtain ⟨i1, i2⟩ := Cxt.tg cx n
    refine ⟨fun {e t} h => ?_, fun {es ts} h => ?_⟩
    · rw [cTg.eq_def] at h
      cases e with
      | Name x p =>
        dsimp only at h
        cases hf : findN C.N x with
        | none => rw [hf] at h; cases h
        | some i =>
          rw [hf] at h
          dsimp only at h
          split at h
          · rename_i hb
            rw [Bool.and_eq_true] at hb
            cases h
            refine ⟨dg_var (by rw [cx.N]; exact cx.nd) (by rw [cx.N]; exact findN_at hf) (by rw [cx.sc]; exact loc_of hb.1) (by rw [cx.sc]; exact cx.fn x (loc_of hb.1) hb.2), rfl⟩
          · cases h
      | Tuple es k p =>
        dsimp only at h
        split at h
        · rename_i hs
          cases hq : cTgs C n es with
          | none => rw [hq] at h; cases h
          | some ts =>
            rw [hq] at h
            cases h
            obtain ⟨j1, j2⟩ := i2 hq
            exact ⟨dg_tup cx.K cx.calm hs j1 j2, rfl⟩
        · cases h
      | _ => cases h
    · rw [cTgs.eq_def] at h
      cases es with
      | nil => cases h; exact ⟨dgs_nil, rfl⟩
      | cons e es =>
        dsimp only at h
        cases h1 : cTg C n e with
        | none => rw [h1] at h; cases h
        | some t =>
          cases h2 : cTgs C n es with
          | none => rw [h1, h2] at h; cases h
          | some ts =>
            rw [h1, h2] at h
            cases h
            obtain ⟨a1, a2⟩ := i1 h1
            obtain ⟨b1, b2⟩ := i2 h2
            exact ⟨dgs_cons a2 a1 b1, by simp [b2]⟩
end

def POk (n : Nat) : Prop := ∀ {X : Cx} {C : Cs} {W : Wd} {G : Gm} {rc : Nat → List Vl → Sto → Res Vl} {E : XK} {T : CXT} {k : Nat} (cx : Cxt X C W G rc E T k) {cell : Bool} {e : Expr} {c : Ex}, cE C n cell e = some c →
  PE X e (tD W E (ev G rc c)) ∧ PT X e (tDT W E fun ρ S => (ev G rc c ρ S).bind tru)
def IOk (n : Nat) : Prop := ∀ {X : Cx} {C : Cs} {W : Wd} {G : Gm} {rc : Nat → List Vl → Sto → Res Vl} {E : XK} {T : CXT} {k : Nat} (cx : Cxt X C W G rc E T k) {tg e : Expr} {k : Ik} {its : List Ex}, cE.cIt C n e = some (k, its) → tgOk tg k = true →
  PI X tg e (tDI W E fun ρ S => (evs G rc its ρ S).bind (walkF k))

section
variable {X : Cx} {C : Cs} {W : Wd} {G : Gm} {rc : Nat → List Vl → Sto → Res Vl} {E : XK} {T : CXT} {k n : Nat}
theorem seqO_cons {α : Type} {o : Option α} {os : List (Option α)} {xs : List α} (h : seqO (o :: os) = some xs) : ∃ y ys, o = some y ∧ seqO os = some ys ∧ xs = y :: ys := by
  unfold seqO at h
  cases o with
  | none => cases h
  | some y =>
    cases q : seqO os with
    | none => rw [q] at h; cases h
    | some ys => rw [q] at h; cases h; exact ⟨y, ys, rfl, rfl, rfl⟩
theorem args_ok (ih : POk n) (cx : Cxt X C W G rc E T k) : ∀ {es : List Expr} {as : List Ex}, es.all notStar = true → seqO (es.map (cE C n false)) = some as → PA X es (tDA W E (evs G rc as))
  | [], as, _, h => by cases h; exact da_nil
  | e :: es, as, hs, h => by
    rw [List.all_cons, Bool.and_eq_true] at hs
    obtain ⟨y, ys, h1, h2, rfl⟩ := seqO_cons h
    exact da_cons hs.1 (ih cx h1).1 (args_ok ih cx hs.2 h2)
theorem args_nil (ih : POk n) : ∀ {es : List Expr} {as : List Ex}, seqO (es.map (cE C n false)) = some as → es = [] → evs G rc as = nilF
  | [], as, h, _ => by cases h; rfl
  | e :: es, as, h, z => by cases z
theorem dps_ok (ih : POk n) (cx : Cxt X C W G rc E T k) {pos : Pos} : ∀ {keys : List (Option Expr)} {values es : List Expr} {as : List Ex}, pairE keys values = some es → seqO (es.map (cE C n false)) = some as →
    DPs X W E pos keys values (evs G rc as) ∧ keys.all (·.isSome) = true ∧ keys.length = values.length ∧ as.length = 2 * keys.length
  | [], [], es, as, h, h2 => by
    cases h
    cases h2
    exact ⟨dps_nil, rfl, rfl, rfl⟩
  | some kk :: ks, v :: vs, es, as, h, h2 => by
    unfold pairE at h
    split at h
    · cases q : pairE ks vs with
      | none => rw [q] at h; cases h
      | some r =>
        rw [q] at h
        cases h
        obtain ⟨y, ys, h3, h4, rfl⟩ := seqO_cons h2
        obtain ⟨z, zs, h5, h6, rfl⟩ := seqO_cons h4
        obtain ⟨a1, a2, a3, a4⟩ := dps_ok ih cx q h6
        exact ⟨dps_cons (ih cx h3).1 (ih cx h5).1 a1, by simpa using a2, by simp [a3], by simp [a4]; omega⟩
    · cases h
  | none :: ks, v :: vs, es, as, h, h2 => by cases h
  | none :: ks, [], es, as, h, h2 => by cases h
  | some _ :: ks, [], es, as, h, h2 => by cases h
  | [], v :: vs, es, as, h, h2 => by cases h
theorem fold_and (ih : POk n) (cx : Cxt X C W G rc E T k) {pos : Pos} : ∀ {es : List Expr} {as : List Ex} {c : Ex}, seqO (es.map (cE C n false)) = some as → foldB .and as = some c →
    PE X (.BoolOp .And es pos) (tD W E (ev G rc c)) ∧ PW X (.BoolOp .And es pos) (tDT W E fun ρ S => (ev G rc c ρ S).bind tru)
  | [], as, c, h, hf => by cases h; cases hf
  | [e], as, c, h, hf => by
    obtain ⟨y, ys, h1, h2, rfl⟩ := seqO_cons h
    cases h2
    cases hf
    exact ⟨pe_one (ih cx h1).1, pw_and1 (ih cx h1).2⟩
  | e :: b :: es, as, c, h, hf => by
    obtain ⟨y, ys, h1, h2, rfl⟩ := seqO_cons h
    obtain ⟨z, zs, h3, h4, rfl⟩ := seqO_cons h2
    unfold foldB at hf
    cases q : foldB .and (z :: zs) with
    | none => rw [q] at hf; cases hf
    | some d =>
      rw [q] at hf
      cases hf
      obtain ⟨r1, r2⟩ := fold_and ih cx (es := b :: es) h2 q
      exact ⟨de_and cx.K (ih cx h1).1 r1, dw_and (ih cx h1).2 r2⟩
theorem fold_or (ih : POk n) (cx : Cxt X C W G rc E T k) {pos : Pos} : ∀ {es : List Expr} {as : List Ex} {c : Ex}, seqO (es.map (cE C n false)) = some as → foldB .or as = some c →
    PE X (.BoolOp .Or es pos) (tD W E (ev G rc c)) ∧ PW X (.BoolOp .Or es pos) (tDT W E fun ρ S => (ev G rc c ρ S).bind tru)
  | [], as, c, h, hf => by cases h; cases hf
  | [e], as, c, h, hf => by
    obtain ⟨y, ys, h1, h2, rfl⟩ := seqO_cons h
    cases h2
    cases hf
    exact ⟨pe_one (ih cx h1).1, pw_or1 (ih cx h1).2⟩
  | e :: b :: es, as, c, h, hf => by
    obtain ⟨y, ys, h1, h2, rfl⟩ := seqO_cons h
    obtain ⟨z, zs, h3, h4, rfl⟩ := seqO_cons h2
    unfold foldB at hf
    cases q : foldB .or (z :: zs) with
    | none => rw [q] at hf; cases hf
    | some d =>
      rw [q] at hf
      cases hf
      obtain ⟨r1, r2⟩ := fold_or ih cx (es := b :: es) h2 q
      exact ⟨de_or cx.K (ih cx h1).1 r1, dw_or (ih cx h1).2 r2⟩
theorem tyn_ok (cx : Cxt X C W G rc E T k) : ∀ {ts : List Expr} {ns : List Nat}, seqO (ts.map (isTyName C)) = some ns → TyNames X ts ns
  | [], ns, h => by cases h; exact .nil
  | t :: ts, ns, h => by
    obtain ⟨y, ys, h1, h2, rfl⟩ := seqO_cons h
    unfold isTyName at h1
    cases t with
    | Name x p =>
      dsimp only at h1
      split at h1
      · rename_i hb
        obtain ⟨g, m, nn, d⟩ := cx.blt hb
        exact .cons h1 g m nn d (tyn_ok cx h2)
      · cases h1
    | _ => cases h1
theorem opt_ok (ih : POk n) (cx : Cxt X C W G rc E T k) {lo : Option Expr} {l : Option Ex} (h : optE (cE C n false) lo = some l) : PO X lo (tDO W E (evo G rc l)) := by
  cases lo with
  | none => cases h; exact do_none
  | some e =>
    dsimp only [optE] at h
    cases q : cE C n false e with
    | none => rw [q] at h; cases h
    | some c => rw [q] at h; cases h; exact do_some (ih cx q).1
theorem cond_ok (ih : POk n) (cx : Cxt X C W G rc E T k) {ifs : List Expr} {l : Option Ex} (h : condE (cE C n false) ifs = some l) : PTs X ifs (tDT W E (evc G rc l)) := by
  cases ifs with
  | nil =>
    cases h
    exact ⟨fun pins s σ H Q I ⟨α, F, ρ, S, sr, er, p⟩ => pts_nil.run pins s σ H Q I (p.here sr rfl)⟩
  | cons c r =>
    cases r with
    | nil =>
      dsimp only [condE] at h
      cases q : cE C n false c with
      | none => rw [q] at h; cases h
      | some d => rw [q] at h; cases h; exact pts_one (ih cx q).2
    | cons _ _ => cases h
theorem plain_ix {b : Expr} (h : isSl b = false) : PlainIx b := by
  intro o i
  cases b <;> first | rfl | (simp [isSl] at h)
theorem tgNames_slots : True := trivial
end
theorem notset_ok {iter : Expr} (h : notSet iter = true) {env : PySem.Env} (x : Value) : foldedSetIterable iter env x = pure x := by
  cases iter <;> first | rfl | (simp [notSet] at h)
theorem cIt_ok (n : Nat) (ih : POk n) : IOk (n + 1) := by
  intro X C W G rc E T k cx tg e kk its h ht
  rw [cE.cIt.eq_def] at h
  dsimp only at h
  have seq : ∀ {e : Expr}, (cE C n false e).map (fun e => (Ik.seq, [e])) = some (kk, its) → PI X tg e (tDI W E fun ρ S => (evs G rc its ρ S).bind (walkF kk)) := fun {e} h => by
    cases q : cE C n false e with
    | none => rw [q] at h; cases h
    | some c =>
      rw [q] at h
      cases h
      exact di_seq cx.K (ih cx q).1
  cases e with
  | Call g args kws p =>
    cases g with
    | Name f fp =>
      cases kws with
      | cons _ _ => exact seq h
      | nil =>
        dsimp only at h
        split at h
        · rename_i hb
          rw [Bool.and_eq_true] at hb
          obtain ⟨g, m, nn, d⟩ := cx.blt hb.1
          cases hq : seqO (args.map (cE C n false)) with
          | none => rw [hq] at h; cases h
          | some as =>
            rw [hq] at h
            dsimp only at h
            cases hk : cIk f as with
            | none => rw [hk] at h; exact seq h
            | some k' =>
              rw [hk] at h
              cases h
              unfold cIk at hk
              match args, hq, hb with
              | [], hq, hb => cases hq; cases hk
              | [a], hq, hb =>
                obtain ⟨y, ys, h1, h2, rfl⟩ := seqO_cons hq
                cases h2
                dsimp only at hk
                have hs : notStar a = true := by simpa using hb.2
                split at hk
                · rename_i hr
                  have hr := beq_iff_eq.mp hr
                  subst hr
                  cases hk
                  exact di_rng1 g m hs (ih cx h1).1
                · split at hk
                  · rename_i hr
                    have hr := beq_iff_eq.mp hr
                    subst hr
                    cases hk
                    exact di_rev cx.K g m hs (ih cx h1).1
                  · split at hk
                    · rename_i hr
                      have hr := beq_iff_eq.mp hr
                      subst hr
                      cases hk
                      cases tg with
                      | Tuple es kk tp => exact di_enum cx.K g m hs (ih cx h1).1
                      | _ => cases ht
                    · cases hk
              | [a, b], hq, hb =>
                obtain ⟨y, ys, h1, h2, rfl⟩ := seqO_cons hq
                obtain ⟨z, zs, h3, h4, rfl⟩ := seqO_cons h2
                cases h4
                dsimp only at hk
                have hs : notStar a = true ∧ notStar b = true := by simpa using hb.2
                split at hk
                · rename_i hr
                  have hr := beq_iff_eq.mp hr
                  subst hr
                  cases hk
                  exact di_rng2 g m hs.1 hs.2 (ih cx h1).1 (ih cx h3).1
                · cases hk
              | a :: b :: c :: r, hq, hb =>
                obtain ⟨y, ys, h1, h2, rfl⟩ := seqO_cons hq
                obtain ⟨z, zs, h3, h4, rfl⟩ := seqO_cons h2
                obtain ⟨w, ws, h5, h6, rfl⟩ := seqO_cons h4
                cases hk
        · exact seq h
    | _ => exact seq h
  | _ => exact seq h
end Z
end

section
set_option maxHeartbeats 1000000
/-! Z16: the compiled expressions, all forms. -/
namespace Z
open PySem L2
section
theorem cE_step (n : Nat) (ih : POk n) (ihi : IOk n) : POk (n + 1) := by
  intro X C W G rc E T k cx cell e c h
  rw [cE.eq_def] at h
  dsimp only at h
  have plain : ∀ {e : Expr} {c : Ex} (he : ∀ whole, isTrue e X.env whole = (do let v ← whole; standAt e.pos; holding [v] (PySem.truthy v))), PE X e (tD W E (ev G rc c)) → PE X e (tD W E (ev G rc c)) ∧ PT X e (tDT W E fun ρ S => (ev G rc c ρ S).bind tru) :=
    fun {e c} he p => ⟨p, dt_truth cx.K p he⟩
  cases e with
  | Constant cc kk pos =>
    cases cc with
    | int i => cases h; exact plain (fun _ => rfl) (de_con pe_int fun _ => rfl)
    | bool i => cases h; exact plain (fun _ => rfl) (de_con pe_bl fun _ => rfl)
    | none => cases h; exact plain (fun _ => rfl) (de_con pe_non fun _ => rfl)
    | str i => cases h; exact plain (fun _ => rfl) (de_con pe_str fun _ => rfl)
    | _ => cases h
  | Name x pos =>
    dsimp only at h
    cases hq : cNm C x with
    | some i =>
      rw [hq] at h
      cases h
      unfold cNm at hq
      cases hf : findN C.N x with
      | none => rw [hf] at hq; cases hq
      | some j =>
        rw [hf] at hq
        dsimp only at hq
        split at hq
        · rename_i hb
          simp only [Bool.and_eq_true] at hb
          cases hq
          exact plain (fun _ => rfl) (de_var (by rw [cx.N]; exact findN_at hf) (by rw [cx.sc]; exact vis_of hb.1.1) (not_beq hb.1.2) (not_beq hb.2))
        · cases hq
    | none =>
      rw [hq] at h
      dsimp only at h
      split at h
      · rename_i hb
        rw [Bool.and_eq_true] at hb
        cases hg : C.gc.lookup x with
        | none => rw [hg] at h; cases h
        | some g =>
          rw [hg] at h
          cases h
          obtain ⟨v, u, h1, h2, h3⟩ := cx.gc x g hg
          exact plain (fun _ => rfl) (de_con (pe_glob (cx.gl hb.1) h1 h2 (not_beq hb.2)) h3)
      · cases h
  | BinOp a op b pos =>
    dsimp only at h
    cases h1 : cOp op with
    | none => rw [h1] at h; cases h
    | some o =>
      cases h2 : cE C n false a with
      | none => rw [h1, h2] at h; cases h
      | some a' =>
        cases h3 : cE C n false b with
        | none => rw [h1, h2, h3] at h; cases h
        | some b' =>
          rw [h1, h2, h3] at h
          cases h
          exact plain (fun _ => rfl) (de_op cx.K h1 (ih cx h2).1 (ih cx h3).1)
  | UnaryOp op a pos =>
    cases op with
    | USub =>
      dsimp only at h
      cases h2 : cE C n false a with
      | none => rw [h2] at h; cases h
      | some a' =>
        rw [h2] at h
        cases h
        exact plain (fun _ => rfl) (de_neg (ih cx h2).1)
    | Not =>
      dsimp only at h
      cases h2 : cE C n false a with
      | none => rw [h2] at h; cases h
      | some a' =>
        rw [h2] at h
        cases h
        exact ⟨de_not cx.K (ih cx h2).1, dt_not (ih cx h2).2⟩
    | _ => cases h
  | BoolOp op es pos =>
    cases op with
    | And =>
      dsimp only at h
      cases hq : seqO (es.map (cE C n false)) with
      | none => rw [hq] at h; cases h
      | some as =>
        rw [hq] at h
        obtain ⟨p1, p2⟩ := fold_and ih cx (pos := pos) hq h
        exact ⟨p1, p2.pt⟩
    | Or =>
      dsimp only at h
      cases hq : seqO (es.map (cE C n false)) with
      | none => rw [hq] at h; cases h
      | some as =>
        rw [hq] at h
        obtain ⟨p1, p2⟩ := fold_or ih cx (pos := pos) hq h
        exact ⟨p1, p2.pt⟩
  | IfExp cc a b pos =>
    dsimp only at h
    cases h1 : cE C n false cc with
    | none => rw [h1] at h; cases h
    | some c' =>
      cases h2 : cE C n cell a with
      | none => rw [h1, h2] at h; cases h
      | some a' =>
        cases h3 : cE C n cell b with
        | none => rw [h1, h2, h3] at h; cases h
        | some b' =>
          rw [h1, h2, h3] at h
          cases h
          exact ⟨de_ite (ih cx h1).2 (ih cx h2).1 (ih cx h3).1, dt_ite (ih cx h1).2 (ih cx h2).2 (ih cx h3).2⟩
  | Compare a ops bs pos =>
    match ops, bs with
    | [op], [b] =>
      dsimp only at h
      split at h
      · cases h
      · rename_i hm
        have hm : behindInMarks op b = false := by simpa using hm
        cases h1 : cCm op with
        | none => rw [h1] at h; cases h
        | some o =>
          cases h2 : cE C n false a with
          | none => rw [h1, h2] at h; cases h
          | some a' =>
            cases h3 : cE C n false b with
            | none => rw [h1, h2, h3] at h; cases h
            | some b' =>
              rw [h1, h2, h3] at h
              cases h
              exact ⟨de_cmp cx.K cx.w cx.room.u100 h1 hm (ih cx h2).1 (ih cx h3).1, dt_cmp cx.K cx.w cx.room.u100 h1 hm (ih cx h2).1 (ih cx h3).1⟩
    | [op, op'], [b, d] =>
      dsimp only at h
      split at h
      · cases h
      · rename_i hm
        have hm : lastMarks [op, op'] [b, d] = false := by simpa using hm
        cases h1 : cCm op with
        | none => rw [h1] at h; cases h
        | some o =>
          cases h1' : cCm op' with
          | none => rw [h1, h1'] at h; cases h
          | some o' =>
            cases h2 : cE C n false a with
            | none => rw [h1, h1', h2] at h; cases h
            | some a' =>
              cases h3 : cE C n false b with
              | none => rw [h1, h1', h2, h3] at h; cases h
              | some b' =>
                cases h4 : cE C n false d with
                | none => rw [h1, h1', h2, h3, h4] at h; cases h
                | some d' =>
                  rw [h1, h1', h2, h3, h4] at h
                  cases h
                  exact ⟨de_chain cx.K cx.w cx.room.u100 h1 h1' hm (ih cx h2).1 (ih cx h3).1 (ih cx h4).1, dt_chain cx.K cx.w cx.room.u100 h1 h1' hm (ih cx h2).1 (ih cx h3).1 (ih cx h4).1⟩
    | [], _ => cases h
    | [_], [] => cases h
    | [_], _ :: _ :: _ => cases h
    | [_, _], [] => cases h
    | [_, _], [_] => cases h
    | [_, _], _ :: _ :: _ :: _ => cases h
    | _ :: _ :: _ :: _, _ => cases h
  | Tuple es kk pos =>
    dsimp only at h
    split at h
    · rename_i hs
      cases hq : seqO (es.map (cE C n false)) with
      | none => rw [hq] at h; cases h
      | some as =>
        rw [hq] at h
        cases h
        exact plain (fun _ => rfl) (de_tup (args_ok ih cx hs hq))
    · cases h
  | List es pos =>
    dsimp only at h
    split at h
    · rename_i hs
      cases hq : seqO (es.map (cE C n false)) with
      | none => rw [hq] at h; cases h
      | some as =>
        rw [hq] at h
        cases h
        exact plain (fun _ => rfl) (de_lst (args_ok ih cx hs hq))
    · cases h
  | Subscript a b pos =>
    have ix : ∀ {b : Expr}, (if isSl b = true then none else match cE C n false a, cE C n false b with
      | some a, some b => some (Ex.ix a b)
      | _, _ => none) = some c → PE X (.Subscript a b pos) (tD W E (ev G rc c)) ∧ PT X (.Subscript a b pos) (tDT W E fun ρ S => (ev G rc c ρ S).bind tru) := fun {b} h => by
      split at h
      · cases h
      · rename_i hs
        cases h2 : cE C n false a with
        | none => rw [h2] at h; cases h
        | some a' =>
          cases h3 : cE C n false b with
          | none => rw [h2, h3] at h; cases h
          | some b' =>
            rw [h2, h3] at h
            cases h
            exact plain (fun _ => rfl) (de_ix cx.K cx.w cx.room.u100 (plain_ix (by simpa using hs)) (ih cx h2).1 (ih cx h3).1)
    cases b with
    | Slice lo hi st p2 =>
      cases st with
      | some _ => exact ix h
      | none =>
        dsimp only at h
        cases h2 : cE C n false a with
        | none => rw [h2] at h; cases h
        | some a' =>
          rw [h2] at h
          generalize hl : optE (cE C n false) lo = ol at h
          generalize hh : optE (cE C n false) hi = oh at h
          cases ol with
          | none => cases h
          | some l =>
            cases oh with
            | none => cases h
            | some r =>
              cases h
              exact plain (fun _ => rfl) (de_sl cx.K (ih cx h2).1 (opt_ok ih cx hl) (opt_ok ih cx hh))
    | _ => exact ix h
  | Dict keys values pos =>
    dsimp only at h
    split at h
    · cases h
    rename_i h15
    cases hq : pairE keys values with
    | none => rw [hq] at h; cases h
    | some es =>
      rw [hq] at h
      dsimp only at h
      cases hs : seqO (es.map (cE C n false)) with
      | none => rw [hs] at h; cases h
      | some as =>
        rw [hs] at h
        obtain ⟨a1, a2, a3, a4⟩ := dps_ok ih cx (pos := pos) hq hs
        · cases h
          cases keys with
          | nil =>
            cases values with
            | nil =>
              cases hq
              cases hs
              exact plain (fun _ => rfl) de_dct0
            | cons _ _ => cases a3
          | cons kk ks =>
            refine plain (fun _ => rfl) (de_dct a1 a2 a3 (by simp) (by omega) fun ρ S S' z => ?_)
            cases as with
            | nil => simp at a4
            | cons a as =>
              have z : (ev G rc a ρ S).bind (fun v S => (evs G rc as ρ S).bind fun vs S => .ok (v :: vs) S) = .ok [] S' := z
              cases e1 : ev G rc a ρ S with
              | ok v S1 =>
                rw [e1] at z
                have z : (evs G rc as ρ S1).bind (fun vs S => .ok (v :: vs) S) = .ok [] S' := z
                cases e2 : evs G rc as ρ S1 with
                | ok vs S2 => rw [e2] at z; cases z
                | exc ee S2 => rw [e2] at z; cases z
                | bad => rw [e2] at z; cases z
              | exc ee S1 => rw [e1] at z; cases z
              | bad => rw [e1] at z; cases z
  | Attribute o f pos =>
    dsimp only at h
    split at h
    · rename_i hb
      cases h1 : cE C n false o with
      | none => rw [h1] at h; cases h
      | some o' =>
        cases h2 : C.fl.lookup f with
        | none => rw [h1, h2] at h; cases h
        | some q =>
          obtain ⟨i, cs⟩ := q
          rw [h1, h2] at h
          cases h
          exact plain (fun _ => rfl) (de_fld ((cx.fl f i cs h2).mono _) hb (ih cx h1).1)
    · cases h
  | DictComp ke ve gs scope pos =>
    match gs, h with
    | [⟨tg, iter, ifs, asy⟩], h =>
      dsimp only at h
      split at h
      · rename_i hb
        rw [Bool.and_eq_true, Bool.and_eq_true] at hb
        obtain ⟨hb, h0⟩ := hb
        have h0 := of_decide_eq_true h0
        subst h0
        generalize hcc : condE (cE { C with sc := relS scope C.sc, wr := some scope } n false) ifs = oc at h
        cases h1 : cE.cIt C n iter with
        | none => rw [h1] at h; cases h
        | some q =>
          obtain ⟨kk, its⟩ := q
          cases h2 : cTg { C with sc := relS scope C.sc, wr := some scope } n tg with
          | none => rw [h1, h2] at h; cases h
          | some t =>
            cases h3 : cE { C with sc := relS scope C.sc, wr := some scope } n false ke with
            | none => rw [h1, h2, h3] at h; cases h
            | some el =>
              cases h4 : cE { C with sc := relS scope C.sc, wr := some scope } n false ve with
              | none => rw [h1, h2, h3, h4] at h; cases h
              | some vl =>
                cases oc with
                | none => rw [h1, h2, h3, h4] at h; cases h
                | some oc =>
                  rw [h1, h2, h3, h4] at h
                  dsimp only at h
                  split at h
                  · rename_i hz
                    rw [Bool.and_eq_true] at hz
                    cases h
                    refine plain (fun _ => rfl) (de_dc cx.calm (by rw [cx.N]; exact cx.nd) (ihi cx h1 hz.2) (blkOk_by (by rw [cx.N, cx.sc]; exact hb.1))
                      (fun s H A cl fp => ((cx.blk scope s H A cl fp).tg n).1 h2 |>.1) (fun s H A cl fp => cond_ok ih (cx.blk scope s H A cl fp) hcc) (fun s H A cl fp => (ih (cx.blk scope s H A cl fp) h3).1)
                      (fun s H A cl fp => (ih (cx.blk scope s H A cl fp) h4).1) (fun x => notset_ok hb.2 x) fun i hi => ?_)
                    have := List.all_eq_true.mp hz.1 i hi
                    simpa using this
                  · cases h
      · cases h
    | [], h => cases h
    | ⟨_, _, _, _⟩ :: ⟨_, _, _, _⟩ :: _, h => cases h
  | Call g args kws pos =>
    cases kws with
    | cons _ _ => cases g <;> cases h
    | nil =>
      cases g with
      | Name f fp =>
        dsimp only at h
        split at h
        · rename_i hb
          rw [Bool.and_eq_true] at hb
          have hf := beq_iff_eq.mp hb.2
          subst hf
          obtain ⟨g, m, nn, d⟩ := cx.blt hb.1
          have one : ∀ {x t : Expr}, (if (!notStar x) = true then none else match cE C n false x, isTyName C t with
              | some x, some t => some (Ex.bf (.isinst [t]) false [x])
              | _, _ => none) = some c → PE X (.Call (.Name "isinstance" fp) [x, t] [] pos) (tD W E (ev G rc c)) := fun {x t} h => by
            split at h
            · cases h
            · rename_i hs
              cases h2 : cE C n false x with
              | none => rw [h2] at h; cases h
              | some x' =>
                cases h3 : isTyName C t with
                | none => rw [h2, h3] at h; cases h
                | some t' =>
                  rw [h2, h3] at h
                  cases h
                  unfold isTyName at h3
                  cases t with
                  | Name y p =>
                    dsimp only at h3
                    split at h3
                    · rename_i hb2
                      obtain ⟨g2, m2, n2, d2⟩ := cx.blt hb2
                      exact de_isi cx.K h3 g m g2 m2 n2 d2 (by simpa using hs) (ih cx h2).1
                    · cases h3
                  | _ => cases h3
          match args, h with
          | [x, t], h =>
            cases t with
            | Tuple ts kk tp =>
              dsimp only at h
              split at h
              · cases h
              · rename_i hs
                cases h2 : cE C n false x with
                | none => rw [h2] at h; cases h
                | some x' =>
                  cases h3 : seqO (ts.map (isTyName C)) with
                  | none => rw [h2, h3] at h; cases h
                  | some ns =>
                    rw [h2, h3] at h
                    dsimp only at h
                    split at h
                    · rename_i hl
                      cases h
                      exact plain (fun _ => rfl) (de_isiT cx.K (tyn_ok cx h3) hl g m (by simpa using hs) (ih cx h2).1)
                    · cases h
            | _ => exact plain (fun _ => rfl) (one h)
          | [], h => cases h
          | [_], h => cases h
          | _ :: t :: _ :: _, h => cases t <;> cases h
        · split at h
          · rename_i hb
            rw [Bool.and_eq_true, Bool.and_eq_true] at hb
            have hf := beq_iff_eq.mp hb.1.2
            subst hf
            obtain ⟨g, m, nn, d⟩ := cx.blt hb.1.1
            split at h
            · rename_i elt tg iter ifs asy scope p2
              split at h
              · rename_i hb2
                rw [Bool.and_eq_true, Bool.and_eq_true] at hb2
                obtain ⟨hb2, h0⟩ := hb2
                have h0 := of_decide_eq_true h0
                subst h0
                generalize hcc : condE (cE { C with sc := relS scope C.sc, wr := some scope } n false) ifs = oc at h
                cases h1 : cE.cIt C n iter with
                | none => rw [h1] at h; cases h
                | some q =>
                  obtain ⟨kk, its⟩ := q
                  cases h2 : cTg { C with sc := relS scope C.sc, wr := some scope } n tg with
                  | none => rw [h1, h2] at h; cases h
                  | some t =>
                    cases h3 : cE { C with sc := relS scope C.sc, wr := some scope } n false elt with
                    | none => rw [h1, h2, h3] at h; cases h
                    | some el =>
                      cases oc with
                      | none => rw [h1, h2, h3] at h; cases h
                      | some oc =>
                        rw [h1, h2, h3] at h
                        dsimp only at h
                        split at h
                        · rename_i hz
                          rw [Bool.and_eq_true] at hz
                          cases h
                          refine plain (fun _ => rfl) (de_sc cx.calm (by rw [cx.N]; exact cx.nd) g m (ihi cx h1 hz.2) (blkOk_by (by rw [cx.N, cx.sc]; exact hb2.1))
                            (fun s H A cl fp => ((cx.blk scope s H A cl fp).tg n).1 h2 |>.1) (fun s H A cl fp => cond_ok ih (cx.blk scope s H A cl fp) hcc) (fun s H A cl fp => (ih (cx.blk scope s H A cl fp) h3).1)
                            (fun x => notset_ok hb2.2 x) fun i hi => ?_)
                          have := List.all_eq_true.mp hz.1 i hi
                          simpa using this
                        · cases h
              · cases h
            · cases h
          rename_i hns
          split at h
          · rename_i hs
            cases hq : seqO (args.map (cE C n false)) with
            | none => rw [hq] at h; cases h
            | some as =>
              rw [hq] at h
              dsimp only at h
              have hA := args_ok ih cx hs hq
              split at h
              · rename_i hgl
                rw [Bool.and_eq_true] at hgl
                cases hd : C.gd.lookup f with
                | some kf =>
                  rw [hd] at h
                  cases h
                  obtain ⟨fd, ps, h1, h2, h3, h4⟩ := cx.gd f kf hd
                  cases args with
                  | nil =>
                    cases hq
                    exact plain (fun _ => rfl) (de_call0 h1 cx.room (cx.gl hgl.1) h2 h3 h4 cx.pas (not_beq hgl.2))
                  | cons a args =>
                    rw [List.all_cons, Bool.and_eq_true] at hs
                    exact plain (fun _ => rfl) (de_call h1 cx.room (cx.gl hgl.1) h2 h3 h4 cx.pas (not_beq hgl.2) hs.1 hs.2 hA)
                | none =>
                  rw [hd] at h
                  dsimp only at h
                  cases hcl : C.cls.lookup f with
                  | some q =>
                    obtain ⟨c0, kf⟩ := q
                    rw [hcl] at h
                    cases h
                    obtain ⟨j, fd, ps, hj, M, h1, h2, h4⟩ := cx.cls f c0 kf hcl
                    exact plain (fun _ => rfl) (de_make M h1 (cx.room.mono hj) (cx.gl hgl.1) h2 h4 cx.pas (not_beq hgl.2) hs hA (args_nil ih hq))
                  | none =>
                  rw [hcl] at h
                  dsimp only at h
                  split at h
                  · rename_i hb
                    rw [Bool.and_eq_true] at hb
                    obtain ⟨g, m, nn, d⟩ := cx.blt hb.1
                    cases hbf : cBf f with
                    | none => rw [hbf] at h; cases h
                    | some b =>
                      rw [hbf] at h
                      cases h
                      cases args with
                      | nil => cases hq; exact absurd hb.2 (by decide)
                      | cons a args =>
                        rw [List.all_cons, Bool.and_eq_true] at hs
                        exact plain (fun _ => rfl) (de_bf cx.K cx.room.u100 cx.calm hbf g m nn d hs.1 hs.2 hA)
                  · cases h
              · cases hn : cNm C f with
                | none => rw [hn] at h; cases h
                | some i =>
                  rw [hn] at h
                  dsimp only at h
                  split at h
                  · cases h
                  · rename_i hne
                    cases h
                    unfold cNm at hn
                    cases hf : findN C.N f with
                    | none => rw [hf] at hn; cases hn
                    | some j =>
                      rw [hf] at hn
                      dsimp only at hn
                      split at hn
                      · rename_i hb
                        simp only [Bool.and_eq_true] at hb
                        cases hn
                        cases args with
                        | nil => cases hq; exact absurd rfl hne
                        | cons a args =>
                          rw [List.all_cons, Bool.and_eq_true] at hs
                          exact plain (fun _ => rfl) (de_callv cx.hv cx.room (by rw [cx.N]; exact findN_at hf) (by rw [cx.sc]; exact vis_of hb.1.1) (not_beq hb.1.2) (not_beq hb.2) cx.pas hs.1 hs.2 hA)
                      · cases hn
          · cases h
      | Attribute o m apos =>
        dsimp only at h
        split at h
        · rename_i hs
          rw [Bool.and_eq_true] at hs
          cases h2 : cE C n false o with
          | none => rw [h2] at h; cases h
          | some o' =>
            cases hq : seqO (args.map (cE C n false)) with
            | none => rw [h2, hq] at h; cases h
            | some as =>
              rw [h2, hq] at h
              dsimp only at h
              cases hmt : C.mt.lookup m with
              | some tab =>
                rw [hmt] at h
                dsimp only at h
                split at h
                · rename_i hz
                  simp only [Bool.and_eq_true] at hz
                  cases h
                  exact plain (fun _ => rfl) (de_meth ((cx.mt m tab hmt).mono _) (by simpa using hz.2) cx.room cx.pas hs.2 hz.1.1 hs.1 (of_decide_eq_true hz.1.2) (ih cx h2).1 (args_ok ih cx hs.1 hq) (args_nil ih hq))
                · cases h
              | none =>
              rw [hmt] at h
              dsimp only at h
              split at h
              · rename_i hl
                split at h
                · rename_i hget
                  unfold isGet at hget
                  rw [Bool.and_eq_true] at hget
                  have hm := beq_iff_eq.mp hget.1
                  subst hm
                  cases h
                  match args, hq, hs, hget with
                  | [a], hq, hs, _ =>
                    obtain ⟨y, ys, h3, h4, rfl⟩ := seqO_cons hq
                    cases h4
                    exact plain (fun _ => rfl) (de_get1 cx.room.u100 hs.2 hl (by simpa using hs.1) (ih cx h2).1 (ih cx h3).1)
                  | [a, b], hq, hs, _ =>
                    obtain ⟨y, ys, h3, h4, rfl⟩ := seqO_cons hq
                    obtain ⟨z, zs, h5, h6, rfl⟩ := seqO_cons h4
                    cases h6
                    have hs1 : notStar a = true ∧ notStar b = true := by simpa using hs.1
                    exact plain (fun _ => rfl) (de_get2 cx.room.u100 hs.2 hl hs1.1 hs1.2 (ih cx h2).1 (ih cx h3).1 (ih cx h5).1)
                  | [], _, _, hget => cases hget.2
                  | _ :: _ :: _ :: _, _, _, hget => cases hget.2
                match args, hq, hs with
                | [], hq, hs =>
                  cases hq
                  dsimp only at h
                  cases hb : cBm0 m with
                  | none => rw [hb] at h; cases h
                  | some b =>
                    rw [hb] at h
                    cases h
                    exact plain (fun _ => rfl) (de_bm0 cx.K (bm_rule0 cx.K hb) hs.2 hl (ih cx h2).1)
                | [a], hq, hs =>
                  obtain ⟨y, ys, h3, h4, rfl⟩ := seqO_cons hq
                  cases h4
                  dsimp only at h
                  cases hb : cBm1 m with
                  | none => rw [hb] at h; cases h
                  | some b =>
                    rw [hb] at h
                    cases h
                    by_cases hi : isIdx b = true
                    · have hm : m = "index" ∧ b = .index := by
                        rcases cBm1_cases hb with ⟨rfl, rfl⟩ | ⟨rfl, rfl⟩ | ⟨rfl, rfl⟩ | ⟨rfl, rfl⟩ | ⟨rfl, rfl⟩ | ⟨rfl, rfl⟩ | ⟨rfl, rfl⟩ <;> first | (cases hi; done) | exact ⟨rfl, rfl⟩
                      obtain ⟨rfl, rfl⟩ := hm
                      exact plain (fun _ => rfl) (de_index cx.K cx.room.u100 hs.2 hl (by simpa using hs.1) (ih cx h2).1 (ih cx h3).1)
                    · exact plain (fun _ => rfl) (de_bm1 (fs := nilF) cx.K (bm_rule1 cx.K cx.room.u100 hb (by simpa using hi)) hs.2 hl (by simpa using hs.1) (ih cx h2).1 (ih cx h3).1)
                | a :: b :: r, hq, hs =>
                  obtain ⟨y, ys, h3, h4, rfl⟩ := seqO_cons hq
                  obtain ⟨z, zs, h5, h6, rfl⟩ := seqO_cons h4
                  cases h
              · cases h
        · cases h
      | _ => cases h
  | ListComp elt gs scope pos =>
    match gs, h with
    | [⟨tg, iter, ifs, asy⟩], h =>
      dsimp only at h
      split at h
      · rename_i hb
        rw [Bool.and_eq_true, Bool.and_eq_true] at hb
        obtain ⟨hb, h0⟩ := hb
        have h0 := of_decide_eq_true h0
        subst h0
        generalize hcc : condE (cE { C with sc := relS scope C.sc, wr := some scope } n false) ifs = oc at h
        cases h1 : cE.cIt C n iter with
        | none => rw [h1] at h; cases h
        | some q =>
          obtain ⟨kk, its⟩ := q
          cases h2 : cTg { C with sc := relS scope C.sc, wr := some scope } n tg with
          | none => rw [h1, h2] at h; cases h
          | some t =>
            cases h3 : cE { C with sc := relS scope C.sc, wr := some scope } n cell elt with
            | none => rw [h1, h2, h3] at h; cases h
            | some el =>
              cases oc with
              | none => rw [h1, h2, h3] at h; cases h
              | some oc =>
                rw [h1, h2, h3] at h
                dsimp only at h
                split at h
                · rename_i hz
                  rw [Bool.and_eq_true] at hz
                  cases h
                  refine plain (fun _ => rfl) (de_lc cx.calm (by rw [cx.N]; exact cx.nd) (ihi cx h1 hz.2) (blkOk_by (by rw [cx.N, cx.sc]; exact hb.1))
                    (fun s H A cl fp => ((cx.blk scope s H A cl fp).tg n).1 h2 |>.1) (fun s H A cl fp => cond_ok ih (cx.blk scope s H A cl fp) hcc) (fun s H A cl fp => (ih (cx.blk scope s H A cl fp) h3).1)
                    (fun x => notset_ok hb.2 x) fun i hi => ?_)
                  have := List.all_eq_true.mp hz.1 i hi
                  simpa using this
                · cases h
      · cases h
    | [], h => cases h
    | ⟨_, _, _, _⟩ :: ⟨_, _, _, _⟩ :: _, h => cases h
  | _ => cases h
theorem cE_ok : ∀ n, POk n ∧ IOk n
  | 0 => by
    constructor
    · intro X C W G rc E T k cx cell e c h
      rw [cE.eq_def] at h
      cases h
    · intro X C W G rc E T k cx tg e kk its h
      rw [cE.cIt.eq_def] at h
      cases h
  | n + 1 => ⟨cE_step n (cE_ok n).1 (cE_ok n).2, cIt_ok n (cE_ok n).1⟩
end
end Z
end

section
set_option maxHeartbeats 1000000
/-! Z17: the compiled statements say what the text does. -/
namespace Z
open PySem L2
section
variable {X : Cx} {C : Cs} {W : Wd} {G : Gm} {rc : Nat → List Vl → Sto → Res Vl} {E : XK} {T : CXT} {k n : Nat}
theorem lc_parts {cell : Bool} {elt : Expr} {gs : List Comprehension} {scope : Scope} {pos : Pos} {c : Ex} (h : cE C (n + 1) cell (.ListComp elt gs scope pos) = some c) :
    ∃ tg iter ifs t kk its el oc, gs = [⟨tg, iter, ifs, 0⟩] ∧ c = .lc cell el t ((tgNames C n tg).map (·.2)) kk its oc ∧ blkB C scope (tgNames C n tg) = true ∧ notSet iter = true ∧ cE.cIt C n iter = some (kk, its) ∧
      cTg { C with sc := relS scope C.sc, wr := some scope } n tg = some t ∧ cE { C with sc := relS scope C.sc, wr := some scope } n cell elt = some el ∧ condE (cE { C with sc := relS scope C.sc, wr := some scope } n false) ifs = some oc ∧
      tgOk tg kk = true ∧ ∀ i ∈ t.slots, i ∈ (tgNames C n tg).map (·.2) := by
  rw [cE.eq_def] at h
  dsimp only at h
  match gs, h with
  | [⟨tg, iter, ifs, asy⟩], h =>
    dsimp only at h
    split at h
    · rename_i hb
      rw [Bool.and_eq_true, Bool.and_eq_true] at hb
      obtain ⟨hb, h0⟩ := hb
      have h0 := of_decide_eq_true h0
      subst h0
      generalize hcc : condE (cE { C with sc := relS scope C.sc, wr := some scope } n false) ifs = oc at h
      cases h1 : cE.cIt C n iter with
      | none => rw [h1] at h; cases h
      | some q =>
        obtain ⟨kk, its⟩ := q
        cases h2 : cTg { C with sc := relS scope C.sc, wr := some scope } n tg with
        | none => rw [h1, h2] at h; cases h
        | some t =>
          cases h3 : cE { C with sc := relS scope C.sc, wr := some scope } n cell elt with
          | none => rw [h1, h2, h3] at h; cases h
          | some el =>
            cases oc with
            | none => rw [h1, h2, h3] at h; cases h
            | some oc =>
              rw [h1, h2, h3] at h
              dsimp only at h
              split at h
              · rename_i hz
                rw [Bool.and_eq_true] at hz
                cases h
                exact ⟨tg, iter, ifs, t, kk, its, el, oc, rfl, rfl, hb.1, hb.2, by first | exact h1 | rfl, by first | exact h2 | rfl, by first | exact h3 | rfl, hcc, hz.2, fun i hi => by
                  have := List.all_eq_true.mp hz.1 i hi
                  simpa using this⟩
              · cases h
    · cases h
  | [], h => cases h
  | ⟨_, _, _, _⟩ :: ⟨_, _, _, _⟩ :: _, h => cases h
theorem dc_parts {cell : Bool} {ke ve : Expr} {gs : List Comprehension} {scope : Scope} {pos : Pos} {c : Ex} (h : cE C (n + 1) cell (.DictComp ke ve gs scope pos) = some c) :
    ∃ tg iter ifs t kk its el vl oc, gs = [⟨tg, iter, ifs, 0⟩] ∧ c = .dc cell el vl t ((tgNames C n tg).map (·.2)) kk its oc ∧ blkB C scope (tgNames C n tg) = true ∧ notSet iter = true ∧ cE.cIt C n iter = some (kk, its) ∧
      cTg { C with sc := relS scope C.sc, wr := some scope } n tg = some t ∧ cE { C with sc := relS scope C.sc, wr := some scope } n false ke = some el ∧ cE { C with sc := relS scope C.sc, wr := some scope } n false ve = some vl ∧ condE (cE { C with sc := relS scope C.sc, wr := some scope } n false) ifs = some oc ∧
      tgOk tg kk = true ∧ ∀ i ∈ t.slots, i ∈ (tgNames C n tg).map (·.2) := by
  rw [cE.eq_def] at h
  dsimp only at h
  match gs, h with
  | [⟨tg, iter, ifs, asy⟩], h =>
    dsimp only at h
    split at h
    · rename_i hb
      rw [Bool.and_eq_true, Bool.and_eq_true] at hb
      obtain ⟨hb, h0⟩ := hb
      have h0 := of_decide_eq_true h0
      subst h0
      generalize hcc : condE (cE { C with sc := relS scope C.sc, wr := some scope } n false) ifs = oc at h
      cases h1 : cE.cIt C n iter with
      | none => rw [h1] at h; cases h
      | some q =>
        obtain ⟨kk, its⟩ := q
        cases h2 : cTg { C with sc := relS scope C.sc, wr := some scope } n tg with
        | none => rw [h1, h2] at h; cases h
        | some t =>
          cases h3 : cE { C with sc := relS scope C.sc, wr := some scope } n false ke with
          | none => rw [h1, h2, h3] at h; cases h
          | some el =>
            cases h4 : cE { C with sc := relS scope C.sc, wr := some scope } n false ve with
            | none => rw [h1, h2, h3, h4] at h; cases h
            | some vl =>
              cases oc with
              | none => rw [h1, h2, h3, h4] at h; cases h
              | some oc =>
                rw [h1, h2, h3, h4] at h
                dsimp only at h
                split at h
                · rename_i hz
                  rw [Bool.and_eq_true] at hz
                  cases h
                  exact ⟨tg, iter, ifs, t, kk, its, el, vl, oc, rfl, rfl, hb.1, hb.2, by first | exact h1 | rfl, by first | exact h2 | rfl, by first | exact h3 | rfl, by first | exact h4 | rfl, hcc, hz.2, fun i hi => by
                    have := List.all_eq_true.mp hz.1 i hi
                    simpa using this⟩
                · cases h
    · cases h
  | [], h => cases h
  | ⟨_, _, _, _⟩ :: ⟨_, _, _, _⟩ :: _, h => cases h
theorem tDS_congr {f g : Env → Sto → RS} {st : Stmt} (h : ∀ ρ S, f ρ S = g ρ S) (q : PS X st (tDS W E f)) : PS X st (tDS W E g) := by
  have : f = g := funext fun ρ => funext fun S => h ρ S
  rw [← this]; exact q
theorem seq_nx (r : RS) : (r.seq fun ρ S => .nx ρ S) = r := by cases r <;> rfl
theorem exs_one {s : Z.St} {ρ : Env} {S : Sto} : exs G rc [s] ρ S = ex G rc s ρ S := seq_nx _
theorem exs_app (b : List Z.St) {ρ : Env} {S : Sto} : ∀ (a : List Z.St) {ρ : Env} {S : Sto}, exs G rc (a ++ b) ρ S = (exs G rc a ρ S).seq fun ρ S => exs G rc b ρ S
  | [], ρ, S => rfl
  | s :: a, ρ, S => by
    show (ex G rc s ρ S).seq (fun ρ S => exs G rc (a ++ b) ρ S) = ((ex G rc s ρ S).seq fun ρ S => exs G rc a ρ S).seq fun ρ S => exs G rc b ρ S
    cases ex G rc s ρ S with
    | nx ρ' S' => exact exs_app b (ρ := ρ) (S := S) a
    | _ => rfl
theorem frz_ok {st : Stmt} {s : Z.St} {l : Nat} (h : PS X st (tDS W E (ex G rc s))) : PS X st (tDS W E (exs G rc (frzAt C l ++ [s]))) := by
  unfold frzAt
  cases C.frz.lookup l with
  | none => exact tDS_congr (fun ρ S => exs_one.symm) h
  | some is =>
    refine tDS_congr (fun ρ S => ?_) (ds_frz (is := is) h)
    show frzF is (ex G rc s) ρ S = (ex G rc (.frz is) ρ S).seq fun ρ S => exs G rc [s] ρ S
    show frzF is (ex G rc s) ρ S = RS.seq (match frz is ρ S with | some (ρ, S) => .nx ρ S | none => .bad) fun ρ S => exs G rc [s] ρ S
    unfold frzF
    cases frz is ρ S with
    | none => rfl
    | some q => exact exs_one.symm
theorem tup_swap {e : Expr} (h : isTup e = false) {tg : Expr} {env : PySem.Env} : swappedStores [tg] e env = pure none := by
  cases e <;> first | (simp [isTup] at h; done) | (cases tg <;> rfl)
theorem name_swap {x : Str} {p : Pos} {e : Expr} {env : PySem.Env} : swappedStores [.Name x p] e env = pure none := rfl
theorem swS_of {e t : Expr} {l : Nat} {env : PySem.Env} (h : swapsWith e (some t) l env = pure false) : PySem.swapsWithSole [t] e l env = pure false := h
theorem sw_cell {x : Str} {px : Pos} {elt : Expr} {gs : List Comprehension} {scope : Scope} {p : Pos} {l : Nat} {env : PySem.Env} (h : ¬ env.scope.names.lookup x = some .local) : PySem.swapsWithSole [.Name x px] (.ListComp elt gs scope p) l env = pure false := by
  have h : ¬ (env.kindOf x = some .local) := h
  have e : (env.kindOf x == some .local) = false := by
    cases q : env.kindOf x with
    | none => rfl
    | some k =>
      cases k <;> first | rfl | exact absurd q h
  refine swS_of ?_
  unfold swapsWith
  simp [e]
theorem sw_cellD {x : Str} {px : Pos} {ke ve : Expr} {gs : List Comprehension} {scope : Scope} {p : Pos} {l : Nat} {env : PySem.Env} (h : ¬ env.scope.names.lookup x = some .local) : PySem.swapsWithSole [.Name x px] (.DictComp ke ve gs scope p) l env = pure false := by
  have h : ¬ (env.kindOf x = some .local) := h
  have e : (env.kindOf x == some .local) = false := by
    cases q : env.kindOf x with
    | none => rfl
    | some k =>
      cases k <;> first | rfl | exact absurd q h
  refine swS_of ?_
  unfold swapsWith
  simp [e]
theorem isTup_not {e : Expr} (h : (isTup e || isLc e) = false) : isTup e = false ∧ isLc e = false := by
  cases h1 : isTup e <;> cases h2 : isLc e <;> simp [h1, h2] at h ⊢

def SOk (n : Nat) : Prop := (∀ {X : Cx} {C : Cs} {W : Wd} {G : Gm} {rc : Nat → List Vl → Sto → Res Vl} {E : XK} {T : CXT} {k : Nat} (cx : Cxt X C W G rc E T k) {s : Stmt} {ss : List Z.St}, cS C n s = some ss → PS X s (tDS W E (exs G rc ss))) ∧
  (∀ {X : Cx} {C : Cs} {W : Wd} {G : Gm} {rc : Nat → List Vl → Sto → Res Vl} {E : XK} {T : CXT} {k : Nat} (cx : Cxt X C W G rc E T k) {s : List Stmt} {ss : List Z.St}, cSs C n s = some ss → PSs X s (tDS W E (exs G rc ss)))
theorem cSs_step (n : Nat) (ih : SOk n) {X : Cx} {C : Cs} {W : Wd} {G : Gm} {rc : Nat → List Vl → Sto → Res Vl} {E : XK} {T : CXT} {k : Nat} (cx : Cxt X C W G rc E T k) {s : List Stmt} {ss : List Z.St} (h : cSs C (n + 1) s = some ss) : PSs X s (tDS W E (exs G rc ss)) := by
  rw [cSs.eq_def] at h
  cases s with
  | nil => cases h; exact dss_nil
  | cons s sts =>
    dsimp only at h
    cases h1 : cS C n s with
    | none => rw [h1] at h; cases h
    | some a =>
      cases h2 : cSs C n sts with
      | none => rw [h1, h2] at h; cases h
      | some b =>
        rw [h1, h2] at h
        cases h
        have e : exs G rc (a ++ b) = fun ρ S => (exs G rc a ρ S).seq fun ρ S => exs G rc b ρ S := funext fun ρ => funext fun S => exs_app b (ρ := ρ) (S := S) a
        rw [e]
        exact dss_cons (ih.1 cx h1) (ih.2 cx h2)
theorem cS_step (n : Nat) (ih : SOk n) {X : Cx} {C : Cs} {W : Wd} {G : Gm} {rc : Nat → List Vl → Sto → Res Vl} {E : XK} {T : CXT} {k : Nat} (cx : Cxt X C W G rc E T k) {s : Stmt} {ss : List Z.St} (h : cS C (n + 1) s = some ss) : PS X s (tDS W E (exs G rc ss)) := by
  have ihe : POk n := (cE_ok n).1
  have ihi : IOk n := (cE_ok n).2
  rw [cS.eq_def] at h
  dsimp only at h
  cases s with
  | Pass pos => cases h; exact tDS_congr (fun ρ S => exs_one.symm) ds_pass
  | Break pos => cases h; exact tDS_congr (fun ρ S => exs_one.symm) ds_break
  | Continue pos => cases h; exact tDS_congr (fun ρ S => exs_one.symm) ds_cont
  | Return e pos =>
    cases e with
    | none =>
      cases h
      exact frz_ok ds_retN
    | some e =>
      dsimp only at h
      cases h1 : cE C n C.retc e with
      | none => rw [h1] at h; cases h
      | some c =>
        rw [h1] at h
        cases h
        exact frz_ok (ds_ret (ihe cx h1).1)
  | Expr e pos =>
    dsimp only at h
    split at h
    · cases h
    · rename_i hl
      cases h1 : cE C n false e with
      | none => rw [h1] at h; cases h
      | some c =>
        rw [h1] at h
        cases h
        exact frz_ok (ds_expr (by simpa using hl) (ihe cx h1).1)
  | AugAssign tg op e pos =>
    cases tg with
    | Name x px =>
      dsimp only at h
      cases h1 : findN C.N x with
      | none => rw [h1] at h; cases h
      | some i =>
        cases h2 : cOp op with
        | none => rw [h1, h2] at h; cases h
        | some o =>
          cases h3 : cE C n false e with
          | none => rw [h1, h2, h3] at h; cases h
          | some c =>
            rw [h1, h2, h3] at h
            dsimp only at h
            split at h
            · rename_i hb
              rw [Bool.and_eq_true] at hb
              cases h
              exact frz_ok (ds_aug h2 (by rw [cx.N]; exact cx.nd) (by rw [cx.N]; exact findN_at h1) (by rw [cx.sc]; exact loc_of hb.1) (by rw [cx.sc]; exact cx.fn x (loc_of hb.1) hb.2) (ihe cx h3).1)
            · cases h
    | Attribute o f px =>
      dsimp only at h
      cases h1 : cE C n false o with
      | none => rw [h1] at h; cases h
      | some o' =>
        cases h2 : C.fl.lookup f with
        | none => rw [h1, h2] at h; cases h
        | some q =>
          obtain ⟨k0, cs⟩ := q
          cases h3 : cOp op with
          | none => rw [h1, h2, h3] at h; cases h
          | some b =>
            cases h4 : cE C n false e with
            | none => rw [h1, h2, h3, h4] at h; cases h
            | some c =>
              rw [h1, h2, h3, h4] at h
              dsimp only at h
              split at h
              · rename_i hb
                rw [Bool.and_eq_true] at hb
                cases h
                have hf := (cx.fl f k0 cs h2).mono (rcvOk C o)
                generalize cs.filter (rcvOk C o) = cs at hb hf ⊢
                match cs, hb, hf with
                | [c0], hb, hf => exact frz_ok (ds_fldaug hf h3 (ihe cx h1).1 (ihe cx h4).1)
                | [], hb, _ => cases hb.2
                | _ :: _ :: _, hb, _ => cases hb.2
              · cases h
    | Subscript d i px =>
      dsimp only at h
      split at h
      · cases h
      · rename_i hsl
        cases h1 : cE C n false d with
        | none => rw [h1] at h; cases h
        | some d' =>
          cases h2 : cE C n false i with
          | none => rw [h1, h2] at h; cases h
          | some i' =>
            cases h3 : cOp op with
            | none => rw [h1, h2, h3] at h; cases h
            | some b =>
              cases h4 : cE C n false e with
              | none => rw [h1, h2, h3, h4] at h; cases h
              | some c =>
                rw [h1, h2, h3, h4] at h
                cases h
                exact frz_ok (ds_daug cx.room.u100 (by simpa using hsl) h3 (ihe cx h1).1 (ihe cx h2).1 (ihe cx h4).1)
    | _ => cases h
  | If c a b pos =>
    dsimp only at h
    cases h1 : cE C n false c with
    | none => rw [h1] at h; cases h
    | some c' =>
      cases h2 : cSs C n a with
      | none => rw [h1, h2] at h; cases h
      | some a' =>
        cases h3 : cSs C n b with
        | none => rw [h1, h2, h3] at h; cases h
        | some b' =>
          rw [h1, h2, h3] at h
          cases h
          exact frz_ok (ds_if (ihe cx h1).2 (ih.2 cx h2) (ih.2 cx h3))
  | While c b el pos =>
    cases el with
    | cons _ _ => cases h
    | nil =>
      dsimp only at h
      cases h1 : cE C n false c with
      | none => rw [h1] at h; cases h
      | some c' =>
        cases h2 : cSs C n b with
        | none => rw [h1, h2] at h; cases h
        | some b' =>
          rw [h1, h2] at h
          cases h
          exact frz_ok (ds_while cx.own (ihe cx h1).2 (ih.2 cx h2))
  | For tg it b el pos =>
    cases el with
    | cons _ _ => cases h
    | nil =>
      dsimp only at h
      cases h1 : cTg C n tg with
      | none => rw [h1] at h; cases h
      | some t =>
        cases h2 : cE.cIt C n it with
        | none => rw [h1, h2] at h; cases h
        | some q =>
          obtain ⟨kk, its⟩ := q
          cases h3 : cSs C n b with
          | none => rw [h1, h2, h3] at h; cases h
          | some b' =>
            rw [h1, h2, h3] at h
            dsimp only at h
            split at h
            · rename_i hz
              rw [Bool.and_eq_true] at hz
              cases h
              exact frz_ok (ds_for cx.own cx.calm (ihi cx h2 hz.1) ((cx.tg n).1 h1).1 (ih.2 cx h3) fun x => notset_ok hz.2 x)
            · cases h
  | Assign tgs e pos =>
    match tgs, h with
    | [], h => cases h
    | [tg], h =>
      cases tg with
      | Name x px =>
        dsimp only at h
        cases h1 : findN C.N x with
        | none => rw [h1] at h; cases h
        | some i =>
          rw [h1] at h
          dsimp only at h
          split at h
          · rename_i hb
            rw [Bool.and_eq_true, Bool.and_eq_true] at hb
            obtain ⟨⟨hb1, hb2⟩, hb3⟩ := hb
            cases h2 : cE C n (C.cells.contains x) e with
            | none => rw [h2] at h; cases h
            | some c =>
              rw [h2] at h
              cases h
              refine frz_ok ?_
              have plain : PySem.swapsWithSole [.Name x px] e pos.line X.env = pure false → PS X (.Assign [.Name x px] e pos) (tDS W E (ex G rc (.asg (.var i) c))) := fun hl =>
                ds_asg hl name_swap rfl (ihe cx h2).1 (dg_var (by rw [cx.N]; exact cx.nd) (by rw [cx.N]; exact findN_at h1) (by rw [cx.sc]; exact loc_of hb1) (by rw [cx.sc]; exact cx.fn x (loc_of hb1) hb2))
              cases e with
              | ListComp elt gs scope p =>
                by_cases hloc : C.sc.names.lookup x = some .local
                case neg => exact plain (sw_cell (by rw [cx.sc]; exact hloc))
                clear plain
                cases n with
                | zero => rw [cE.eq_def] at h2; cases h2
                | succ n =>
                  obtain ⟨tg, iter, ifs, t, kk, its, el, oc, rfl, rfl, z1, z2, z3, z4, z5, z6, z7, z8⟩ := lc_parts h2
                  have ihe : POk n := (cE_ok n).1
                  have ihi : IOk n := (cE_ok n).2
                  simp only [lcOk, hloc, Bool.and_eq_true, Bool.not_eq_true'] at hb3
                  obtain ⟨⟨y2, y3⟩, y4⟩ := hb3
                  have y1 := hloc
                  have y3 : C.sc.kind = .function := by
                    split at y3
                    · assumption
                    · cases y3
                  exact ds_asgLc cx.calm (by rw [cx.N]; exact cx.nd) (by rw [cx.N]; exact findN_at h1) (by rw [cx.sc]; exact y1) (sw_true (by rw [cx.sc]; exact y3) (by rw [cx.sc]; exact y1) y2 y4) (ihi cx z3 z7) (blkOk_by (by rw [cx.N, cx.sc]; exact z1))
                    (fun s H A cl fp => ((cx.blk scope s H A cl fp).tg n).1 z4 |>.1) (fun s H A cl fp => cond_ok ihe (cx.blk scope s H A cl fp) z6) (fun s H A cl fp => (ihe (cx.blk scope s H A cl fp) z5).1)
                    (fun x => notset_ok z2 x) z8
              | DictComp ke ve gs scope p =>
                by_cases hloc : C.sc.names.lookup x = some .local
                case neg => exact plain (sw_cellD (by rw [cx.sc]; exact hloc))
                clear plain
                cases n with
                | zero => rw [cE.eq_def] at h2; cases h2
                | succ n =>
                  obtain ⟨tg, iter, ifs, t, kk, its, el, vl, oc, rfl, rfl, z1, z2, z3, z4, z5, z5', z6, z7, z8⟩ := dc_parts h2
                  have ihe : POk n := (cE_ok n).1
                  have ihi : IOk n := (cE_ok n).2
                  simp only [lcOk, hloc, Bool.and_eq_true, Bool.not_eq_true'] at hb3
                  obtain ⟨⟨y2, y3⟩, y4⟩ := hb3
                  have y1 := hloc
                  have y3 : C.sc.kind = .function := by
                    split at y3
                    · assumption
                    · cases y3
                  exact ds_asgDc cx.calm (by rw [cx.N]; exact cx.nd) (by rw [cx.N]; exact findN_at h1) (by rw [cx.sc]; exact y1) (sw_dc (by rw [cx.sc]; exact y3) (by rw [cx.sc]; exact y1) y2 y4) (ihi cx z3 z7) (blkOk_by (by rw [cx.N, cx.sc]; exact z1))
                    (fun s H A cl fp => ((cx.blk scope s H A cl fp).tg n).1 z4 |>.1) (fun s H A cl fp => cond_ok ihe (cx.blk scope s H A cl fp) z6) (fun s H A cl fp => (ihe (cx.blk scope s H A cl fp) z5).1) (fun s H A cl fp => (ihe (cx.blk scope s H A cl fp) z5').1)
                    (fun x => notset_ok z2 x) z8
              | _ => exact plain (swS_not (by simpa [lcOk] using hb3))
          · cases h
      | Tuple ts kk p =>
        dsimp only at h
        cases hpar : parOf ts e with
        | some q =>
          obtain ⟨x, px, y, py, a, b⟩ := q
          rw [hpar] at h
          dsimp only at h
          have hpo := parOf_some hpar
          cases h1 : findN C.N x with
          | none => rw [h1] at h; cases h
          | some i =>
            cases h2 : findN C.N y with
            | none => rw [h1, h2] at h; cases h
            | some j =>
              cases h3 : cE C n false a with
              | none => rw [h1, h2, h3] at h; cases h
              | some a' =>
                cases h4 : cE C n false b with
                | none => rw [h1, h2, h3, h4] at h; cases h
                | some b' =>
                  rw [h1, h2, h3, h4] at h
                  dsimp only at h
                  split at h
                  · rename_i hb
                    cases h
                    unfold parB at hb
                    simp only [Bool.and_eq_true, Bool.not_eq_true'] at hb
                    obtain ⟨⟨⟨⟨⟨⟨⟨⟨⟨⟨hne, hx⟩, hy⟩, hox⟩, hoy⟩, hs1⟩, hs2⟩, hln⟩, hk⟩, hf1⟩, hf2⟩ := hb
                    have hx : C.sc.names.lookup x = some .local := by split at hx <;> first | assumption | cases hx
                    have hy : C.sc.names.lookup y = some .local := by split at hy <;> first | assumption | cases hy
                    have hk : C.sc.kind = .function := by split at hk <;> first | assumption | cases hk
                    have hij : i ≠ j := fun z => by
                      have e1 := findN_at h1
                      have e2 := findN_at h2
                      rw [z, e2] at e1
                      cases e1
                      simp at hne
                    rw [← cx.sc] at hx hy hk
                    obtain ⟨rfl, k2, pt2, rfl⟩ := hpo
                    exact frz_ok (ds_par cx.calm (by rw [cx.N]; exact cx.nd) (by rw [cx.N]; exact findN_at h1) (by rw [cx.N]; exact findN_at h2) hij hx hy (swap_of hk hx hy hne hln hs1 hs2 hf1 hf2) hs1 hs2 (ihe cx h3).1 (ihe cx h4).1)
                  · cases h
        | none =>
        rw [hpar] at h
        dsimp only at h
        split at h
        · cases h
        · rename_i hl
          obtain ⟨l1, l2⟩ := isTup_not (by simpa using hl)
          cases h1 : cTg C n (.Tuple ts kk p) with
          | none => rw [h1] at h; cases h
          | some t =>
            cases h2 : cE C n false e with
            | none => rw [h1, h2] at h; cases h
            | some c =>
              rw [h1, h2] at h
              cases h
              exact frz_ok (ds_asg (swS_not l2) (tup_swap l1) rfl (ihe cx h2).1 ((cx.tg n).1 h1).1)
      | Subscript o i p =>
        dsimp only at h
        split at h
        · cases h
        · rename_i hl
          have hl : isLc e = false ∧ isSl i = false := by
            cases q1 : isLc e <;> cases q2 : isSl i <;> simp [q1, q2] at hl ⊢
          cases h1 : cE C n false o with
          | none => rw [h1] at h; cases h
          | some o' =>
            cases h2 : cE C n false i with
            | none => rw [h1, h2] at h; cases h
            | some i' =>
              cases h3 : cE C n false e with
              | none => rw [h1, h2, h3] at h; cases h
              | some c =>
                rw [h1, h2, h3] at h
                cases h
                exact frz_ok (ds_sub cx.room.u100 hl.1 hl.2 (ihe cx h1).1 (ihe cx h2).1 (ihe cx h3).1)
      | Attribute o f p =>
        dsimp only at h
        split at h
        · cases h
        · rename_i hl
          have hl : isLc e = false ∧ noSuper o = true := by
            cases q1 : isLc e <;> cases q2 : noSuper o <;> simp [q1, q2] at hl ⊢
          cases h1 : cE C n false o with
          | none => rw [h1] at h; cases h
          | some o' =>
            cases h2 : C.fl.lookup f with
            | none => rw [h1, h2] at h; cases h
            | some q =>
              obtain ⟨k0, cs⟩ := q
              cases h3 : cE C n (C.fcells.contains f) e with
              | none => rw [h1, h2, h3] at h; cases h
              | some c =>
                rw [h1, h2, h3] at h
                cases h
                exact frz_ok (ds_fld ((cx.fl f k0 cs h2).mono _) hl.1 (ihe cx h1).1 (ihe cx h3).1)
      | _ => cases h
    | t :: _ :: _, h => cases t <;> cases h
  | _ => cases h
theorem cS_ok : ∀ n, SOk n
  | 0 => by
    constructor
    · intro X C W G rc E T k cx s ss h
      rw [cS.eq_def] at h
      cases h
    · intro X C W G rc E T k cx s ss h
      rw [cSs.eq_def] at h
      cases s with
      | nil => cases h; exact dss_nil
      | cons _ _ => cases h
  | n + 1 => by
    constructor
    · intro X C W G rc E T k cx s ss h
      exact cS_step n (cS_ok n) cx h
    · intro X C W G rc E T k cx s ss h
      exact cSs_step n (cS_ok n) cx h
end
end Z
end

section
set_option maxHeartbeats 1000000
/-! Z18: defs. -/
namespace Z
open PySem L2
section
variable {W : Wd} {E : XK} {α α' : Nat → Addr} {F F' : Hp} {S S' : Sto} {H H' : Hp}
theorem below_vl {N : Nat} {x : Vl} {v : V} {M : Nat} (h : Vl.below N x = true) (r : VlR W α F M x v) : VlR W α F N x v := by
  cases x with
  | d x => exact r
  | p m => exact ⟨r.1, of_decide_eq_true h⟩
theorem below_vls {N M : Nat} {xs : List Vl} {vs : List V} (r : VlRs W α F M xs vs) : xs.all (Vl.below N) = true → VlRs W α F N xs vs := by
  induction r with
  | nil => intro _; exact .nil
  | cons a _ ih =>
    intro h
    rw [List.all_cons, Bool.and_eq_true] at h
    exact .cons (below_vl h.1 a) (ih h.2)
theorem below_cell {N M : Nat} {a : Addr} {c : Cell} (h : c.below N = true) (r : CellOk W α F M H a c) : CellOk W α F N H a c := by
  cases c with
  | dead => trivial
  | lst xs =>
    obtain ⟨vs, e, r⟩ := r
    exact ⟨vs, e, below_vls r h⟩
  | dct t kvs =>
    obtain ⟨ws, e, r⟩ := r
    refine ⟨ws, e, below_vls r ?_⟩
    rw [List.all_map]
    exact h
  | ins c fs =>
    obtain ⟨dx, vs, e, r⟩ := r
    refine ⟨dx, vs, e, below_vls r ?_⟩
    rw [List.all_map]
    exact h
theorem close_ok {v : Vl} {Q : V → Hp → Prop} (p : Post W E (VlX W) α F S H (leave.close S v S') Q) (x : Ext α F S H α' F' S' H') (s : Sr W α' F' S' H') {w : V} (r : VlR W α' F' S'.length v w) : Q w H' := by
  unfold leave.close at p
  dsimp only at p
  split at p
  · rename_i hz
    rw [Bool.and_eq_true, Bool.and_eq_true] at hz
    obtain ⟨hl, hc, hv⟩ := (⟨beq_iff_eq.mp hz.1.1, hz.1.2, hz.2⟩ : _ ∧ _ ∧ _)
    have sub : ∀ n c, (S'.take S.length)[n]? = some c → S'[n]? = some c ∧ n < S.length := fun n c h => by
      have hn := (List.getElem?_eq_some_iff.mp h).1
      rw [hl] at hn
      rw [List.getElem?_take_of_lt hn] at h
      exact ⟨h, hn⟩
    have lv : ∀ n, Live (S'.take S.length) n → Live S' n := fun n ⟨c, h, d⟩ => ⟨c, (sub n c h).1, d⟩
    refine p w α' F' H' ⟨x.al, by rw [hl]; exact Nat.le_refl _, x.fr, x.frame, fun n h1 h2 => by rw [hl] at h2; omega, fun n h l => x.lv n h (lv n l), x.dom, x.fz⟩ ⟨s.sub, fun n l => s.sep n (lv n l), fun m n lm ln => s.inj m n (lv m lm) (lv n ln), fun n c h => ?_⟩ ?_
    · obtain ⟨h1, h2⟩ := sub n c h
      have hb := List.all_eq_true.mp hc c (List.mem_iff_getElem?.mpr ⟨n, h⟩)
      rw [hl]
      exact below_cell hb (s.cel n c h1)
    · show VlR W α' F' (S'.take S.length).length v w
      rw [hl]
      exact below_vl hv r
  · exact p.elim
theorem leave_ok {keep : Bool} {v : Vl} {Q : V → Hp → Prop} (p : Post W E (VlX W) α F S H (leave keep S v S') Q) (x : Ext α F S H α' F' S' H') (s : Sr W α' F' S' H') {w : V} (r : VlR W α' F' S'.length v w) : Q w H' := by
  unfold leave at p
  split at p
  · exact p w α' F' H' x s r
  · split at p
    · rename_i n
      split at p
      · exact close_ok p x s r
      · cases hf : freeze (.p n) S' with
        | none => rw [hf] at p; exact p.elim
        | some q =>
          obtain ⟨d, S2⟩ := q
          rw [hf] at p
          dsimp only at p
          obtain ⟨F2, s2, x2, rp⟩ := s.freeze r hf
          exact close_ok p (x.trans x2) s2 rp
    · exact close_ok p x s r
end

/-- a state without cells -/
theorem Sr.none {W : Wd} {α : Nat → Addr} {F : Hp} {S : Sto} {H : Hp} (s : Sr W α F S H) : Sr W α F [] H :=
  ⟨s.sub, fun n ⟨c, e, _⟩ => by simp at e, fun m n ⟨c, e, _⟩ => by simp at e, fun n c e => by simp at e⟩
theorem VlRs.datas {W : Wd} {α : Nat → Addr} {F : Hp} {N M : Nat} {xs : List Vl} {vs : List V} (r : VlRs W α F N xs vs) : xs.all dataO = true → VlRs W α F M xs vs := by
  induction r with
  | nil => intro _; exact .nil
  | @cons x v xs vs a _ ih =>
    intro h
    rw [List.all_cons, Bool.and_eq_true] at h
    refine .cons ?_ (ih h.2)
    cases x with
    | d x => exact a
    | p n => exact absurd (show false = true from h.1) Bool.false_ne_true
/-- back from a piece of work that saw none of our cells -/
theorem Sr.back {W : Wd} {α α' : Nat → Addr} {F F' : Hp} {S S' : Sto} {H H' : Hp} (s : Sr W α F S H) (x : Ext α F [] H α' F' S' H') (s' : Sr W α' F' S' H') : Sr W α F' S H' ∧ Ext α F S H α F' S H' := by
  have fr : ∀ a o, H a = some o → H' a = some o := fun a o h => x.frame a o h fun n ⟨c, e, _⟩ => by simp at e
  refine ⟨⟨s'.sub, fun n l => ?_, s.inj, fun n c e => (s.cel n c e).mono (fun _ _ => rfl) (Nat.le_refl _) x.fr fun _ o h => fr _ _ h⟩, ⟨fun _ _ => rfl, Nat.le_refl _, x.fr, fun a o h _ => fr a o h, fun n h1 h2 => absurd (Nat.lt_of_lt_of_le h2 h1) (Nat.lt_irrefl _), fun _ _ h => h, x.dom, fun a o h h' => ?_⟩⟩
  · cases q : F' (α n) with
    | none => rfl
    | some o =>
      obtain ⟨u, hu⟩ := s.there l
      rcases x.fz _ o q (s.sep n l) with z | ⟨m, ⟨c, e, _⟩, _⟩
      · rw [hu] at z; cases z
      · simp at e
  · rcases x.fz a o h h' with z | ⟨m, ⟨c, e, _⟩, _⟩
    · exact .inl z
    · simp at e
theorem goOut_ok {W : Wd} {E : XK} {α α' : Nat → Addr} {F F' : Hp} {S S' : Sto} {H H' : Hp} {v : Vl} {Q : V → Hp → Prop} (s : Sr W α F S H) (p : Post W E (VlX W) α F S H (goOut S v S') Q) (x : Ext α F [] H α' F' S' H') (s' : Sr W α' F' S' H') {w : V} (r : VlR W α' F' S'.length v w) : Q w H' := by
  unfold goOut at p
  cases hf : freeze v S' with
  | none => rw [hf] at p; exact p.elim
  | some q =>
    obtain ⟨d, S2⟩ := q
    rw [hf] at p
    dsimp only at p
    have fin : ∀ {F2 S2}, Ext α F [] H α' F2 S2 H' → Sr W α' F2 S2 H' → Rp W F2 d w → Q w H' := fun {F2 S2} x2 s2 rp => by
      obtain ⟨s3, x3⟩ := s.back x2 s2
      exact p w α F2 H' x3 s3 rp
    obtain ⟨F2, s2, x2, rp⟩ := s'.freeze r hf
    exact fin (x.trans x2) s2 rp
/-- a def of the text, its number, its compiled body -/
structure DefOk (K : PySem.W.Frag) (mg : Str → Option Value) (W : Wd) (G : Gm) (f : Nat) (d : Df) (C : Cs) (n : Nat) (x qual : Str) (st : Stmt) (fd : FuncData) (ps : List Str) : Prop where
  fn : Fun K x qual st (W.fa f) fd
  sp : FnScope C.N ps (defScope st)
  sc : C.sc = defScope st
  wr : C.wr = none
  cs : cSs C n (defBody st) = some d.body
  sl : d.slots = C.N.length
  pr : d.params = ps.length
  bi : Binds K fd ps []
/-- what stands at the module's level -/
structure ModOk (K : PySem.W.Frag) (mg : Str → Option Value) (W : Wd) (G : Gm) (C : Cs) : Prop where
  gb : ∀ x, x ∈ C.gb → mg x = none
  gd : ∀ x f, C.gd.lookup x = some f → mg x = some (.ref (W.fa f)) ∧ ∃ d, G.defs f = some d ∧ d.init = false
  gc : ∀ x g, C.gc.lookup x = some g → ∃ v u, mg x = some u ∧ RelV v u ∧ ∀ F, Rp W F (G.con g) v
  fl : ∀ f i cs, C.fl.lookup f = some (i, cs) → FldOk K W f i cs
  mt : ∀ m tab, C.mt.lookup m = some tab → (∀ j, W.nm j ≠ m) ∧ ∀ p ∈ tab, Cls K (W.ca p.1) ∧ Meth K (W.ca p.1) m (W.fa p.2) ∧ ∃ d, G.defs p.2 = some d ∧ d.init = false
  cls : ∀ x c f, C.cls.lookup x = some (c, f) → Mk K (W.ca c) (W.fa f) ∧ mg x = some (.ref (W.ca c)) ∧ ∃ d, G.defs f = some d ∧ d.init = true
theorem start_env {W : Wd} {α : Nat → Addr} {F : Hp} {N : Nat} {as : List Vl} {vs : List V} (r : VlRs W α F N as vs) {names : List Str} : EnvR W α F N (as.map some ++ List.replicate (names.length - as.length) none) (L2.start names vs) := by
  have hl := r.length
  unfold L2.start
  rw [← hl]
  refine ⟨by simp [hl], fun i v h => ?_⟩
  by_cases hi : i < as.length
  · rw [List.getElem?_append_left (by simpa using hi), List.getElem?_map] at h
    cases q : as[i]? with
    | none => rw [q] at h; cases h
    | some y =>
      rw [q] at h
      cases h
      obtain ⟨w, e, rr⟩ := r.get q
      exact ⟨w, by rw [List.getElem?_append_left (by rw [List.length_map, ← hl]; exact hi), List.getElem?_map, e]; rfl, rr⟩
  · rw [List.getElem?_append_right (by simpa using hi)] at h
    have := List.mem_iff_getElem?.mpr ⟨_, h⟩
    simp at this
/-- the level of a def -/
def lev (d : Df) (k : Nat) : Nat := if d.init then k else k + 1
section
variable {P : Program} {w : World} {K : PySem.W.Frag} {mg : Str → Option Value} {base : Heap} {W : Wd} {G : Gm}
/-- all defs, run to the depth k -/
def AllOk (P : Program) (w : World) (K : PySem.W.Frag) (mg : Str → Option Value) (base : Heap) (W : Wd) (G : Gm) (k : Nat) : Prop :=
  ∀ f d, G.defs f = some d → ∃ fd ps, FnOk P w K mg base CX0 (lev d k) (W.fa f) fd ps (spF W (run G k) f) ∧ PySem.W.keepIn K (.ref (W.fa f)) = true ∧ Binds K fd ps []
theorem cxt_of (hK : W.K = K) (hW : W.w = w) {k f : Nat} (A0 : AllOk P w K mg base W G k) {d : Df} {C : Cs} {n : Nat} {x qual : Str} {st : Stmt} {fd : FuncData} {ps : List Str} (D : DefOk K mg W G f d C n x qual st fd ps) (M : ModOk K mg W G C) {cdv : Value} {A : Around} {outer : List PySem.Env} {s : Shared} {H : Hp} {E : XK}
    (hr : Room (k + 1) (A.deeper (PyProof.Rows.envOfC qual (defScope st) s.heap.objs.size (W.fa f) cdv))) : Cxt (cxOf CX0 P w K mg base C.N qual (defScope st) (W.fa f) cdv A outer s H E).nox C W G (run G k) E CX0 (k + 1) where
  K := hK
  calm := rfl
  sc := D.sc.symm
  N := rfl
  nd := D.sp.nd
  fn := fun _ _ _ => .inl rfl
  room := hr
  gb := M.gb
  gd := fun y g e => by
    obtain ⟨m1, d', hg, hi⟩ := M.gd y g e
    obtain ⟨fd', ps', F, kp, b⟩ := A0 g d' hg
    rw [lev, hi] at F
    exact ⟨fd', ps', F, m1, kp, b⟩
  gc := M.gc
  w := hW
  fl := M.fl
  mt := fun m tab e => by
    obtain ⟨h1, h2⟩ := M.mt m tab e
    refine ⟨h1, fun p hp => ?_⟩
    obtain ⟨c, me, d', hg, hi⟩ := h2 p hp
    obtain ⟨fd', ps', F, kp, b⟩ := A0 p.2 d' hg
    rw [lev, hi] at F
    exact ⟨c, me, fd', ps', F, b⟩
  cls := fun y c g e => by
    obtain ⟨M1, m1, d', hg, hi⟩ := M.cls y c g e
    obtain ⟨fd', ps', F, kp, b⟩ := A0 g d' hg
    rw [lev, hi] at F
    exact ⟨k, fd', ps', Nat.le_refl _, M1, F, m1, b⟩
  hv := fun g e => by
    unfold Gm.callable at e
    cases hg : G.defs g with
    | none => rw [hg] at e; cases e
    | some d' =>
      rw [hg] at e
      obtain ⟨fd', ps', F, kp, b⟩ := A0 g d' hg
      rw [lev, show d'.init = false by simpa using e] at F
      exact ⟨fd', ps', F, kp, b⟩
  pas := fun _ _ _ _ _ _ _ z => z.elim
  pas0 := fun _ _ _ _ _ _ _ _ z => z.elim
  own := PySem.PassesOwn.never
/-- a def by its body, whatever is done with what the body gives -/
theorem def_ok (hK : W.K = K) (hW : W.w = w) {k f : Nat} (A0 : AllOk P w K mg base W G k) {d : Df} {C : Cs} {n : Nat} {x qual : Str} {st : Stmt} {fd : FuncData} {ps : List Str} (D : DefOk K mg W G f d C n x qual st fd ps) (M : ModOk K mg W G C) {sp : Sp}
    (hsp : ∀ vs H Q E, sp vs H Q E → ∃ α F S as, Sr W α F S H ∧ VlRs W α F S.length as vs ∧ as.length = d.params ∧
      ∀ D : Ends, D.nx = (fun _ H' => Q .non H') → D.rt = Q → PostS W E α F S H (exs G (run G k) d.body (as.map some ++ List.replicate (d.slots - d.params) none) S) D) : FnOk P w K mg base CX0 (k + 2) (W.fa f) fd ps sp := by
  refine D.fn.ok D.sp (fun vs H Q E q => ?_) (fun cdv A outer s H vs Q E hr q => ?_)
  · obtain ⟨α, F, S, as, s, r, hl, p⟩ := hsp vs H Q E q
    rw [← r.length, hl, D.pr]
  · obtain ⟨α, F, S, as, sr, r, hl, p⟩ := hsp vs H Q E q
    refine ⟨_, (cS_ok n).2 (cxt_of hK hW A0 D M hr) D.cs, α, F, as.map some ++ List.replicate (d.slots - d.params) none, S, sr, ?_, ?_⟩
    · rw [D.sl, ← hl]; exact start_env r
    · exact p _ rfl rfl
theorem never_ok {f k : Nat} {rc : Nat → List Vl → Sto → Res Vl} (h : ∀ vs S, rc f vs S = .bad) {fd : FuncData} {ps : List Str} : FnOk P w K mg base CX0 k (W.fa f) fd ps (spF W rc f) :=
  ⟨fun vs H Q E ⟨α, F, S, as, s, r, p⟩ => by rw [h] at p; exact p.elim, fun A outer s H args us vs Q E hr e0 hb r ⟨α, F, S, as, s', r', p⟩ => by rw [h] at p; exact p.elim⟩
theorem def_one (hK : W.K = K) (hW : W.w = w) {k f : Nat} (A0 : AllOk P w K mg base W G k) {d : Df} {C : Cs} {n : Nat} {x qual : Str} {st : Stmt} {fd : FuncData} {ps : List Str} (h : G.defs f = some d) (hi : d.init = false) (D : DefOk K mg W G f d C n x qual st fd ps) (M : ModOk K mg W G C) :
    FnOk P w K mg base CX0 (k + 2) (W.fa f) fd ps (spF W (run G (k + 1)) f) := by
  refine def_ok (sp := spF W (run G (k + 1)) f) hK hW A0 D M fun vs H Q E ⟨α, F, S, as, s, r, p⟩ => ?_
  unfold run at p
  rw [h] at p
  dsimp only at p
  split at p
  · rename_i hl
    simp only [hi, Bool.false_eq_true, if_false] at p
    split at p
    · split at p
      · rename_i hda
        refine ⟨α, F, [], as, s.none, r.datas hda, beq_iff_eq.mp hl, fun D e1 e2 => ?_⟩
        cases hx : exs G (run G k) d.body (as.map some ++ List.replicate (d.slots - d.params) none) [] with
        | nx ρ' S' =>
          rw [hx] at p
          intro σ' α' F' H' x' s' er
          obtain ⟨s2, x2⟩ := s.back x' s'
          rw [e1]
          exact p .non α F' H' x2 s2 rfl
        | rt v S' =>
          rw [hx] at p
          intro w α' F' H' x' s' rr
          rw [e2]
          exact goOut_ok s p x' s' rr
        | exc e S' =>
          rw [hx] at p
          intro c dd α' F' H' x' s' rr
          obtain ⟨s2, x2⟩ := s.back x' s'
          exact p c dd α F' H' x2 s2 rr
        | bk ρ' S' => rw [hx] at p; exact p.elim
        | ct ρ' S' => rw [hx] at p; exact p.elim
        | bad => rw [hx] at p; exact p.elim
      · exact p.elim
    · refine ⟨α, F, S, as, s, r, beq_iff_eq.mp hl, fun D e1 e2 => ?_⟩
      cases hx : exs G (run G k) d.body (as.map some ++ List.replicate (d.slots - d.params) none) S with
      | nx ρ' S' =>
        rw [hx] at p
        intro σ' α' F' H' x' s' er
        rw [e1]
        exact leave_ok (v := .d .non) p x' s' rfl
      | rt v S' =>
        rw [hx] at p
        intro w α' F' H' x' s' rr
        rw [e2]
        exact leave_ok p x' s' rr
      | exc e S' =>
        rw [hx] at p
        exact p
      | bk ρ' S' => rw [hx] at p; exact p.elim
      | ct ρ' S' => rw [hx] at p; exact p.elim
      | bad => rw [hx] at p; exact p.elim
  · exact p.elim
theorem defs_ok (hK : W.K = K) (hW : W.w = w) (hd : ∀ f d, G.defs f = some d → ∃ C n x qual st fd ps, DefOk K mg W G f d C n x qual st fd ps ∧ ModOk K mg W G C) : ∀ k : Nat, AllOk P w K mg base W G k
  | 0, f, d, h => by
    obtain ⟨C, n, x, qual, st, fd, ps, D, M⟩ := hd f d h
    exact ⟨fd, ps, never_ok fun _ _ => rfl, D.fn.kp, D.bi⟩
  | k + 1, f, d, h => by
    obtain ⟨C, n, x, qual, st, fd, ps, D, M⟩ := hd f d h
    refine ⟨fd, ps, ?_, D.fn.kp, D.bi⟩
    cases hi : d.init with
    | true =>
      cases k with
      | zero =>
        refine never_ok fun vs S => ?_
        unfold run
        rw [h]
        dsimp only
        split
        · try simp only [hi, if_true]
        · rfl
      | succ k =>
        have := def_ok (sp := spF W (run G (k + 2)) f) hK hW (defs_ok hK hW hd k) D M fun vs H Q E ⟨α, F, S, as, s, r, p⟩ => by
          unfold run at p
          rw [h] at p
          dsimp only at p
          split at p
          · rename_i hl
            try simp only [hi, if_true] at p
            refine ⟨α, F, S, as, s, r, beq_iff_eq.mp hl, fun D e1 e2 => ?_⟩
            cases hx : exs G (run G k) d.body (as.map some ++ List.replicate (d.slots - d.params) none) S with
            | nx ρ' S' =>
              rw [hx] at p
              intro σ' α' F' H' x' s' er
              rw [e1]
              exact p .non α' F' H' x' s' rfl
            | rt v S' => rw [hx] at p; exact p.elim
            | exc e S' => rw [hx] at p; exact p
            | bk ρ' S' => rw [hx] at p; exact p.elim
            | ct ρ' S' => rw [hx] at p; exact p.elim
            | bad => rw [hx] at p; exact p.elim
          · exact p.elim
        rw [lev, hi]
        exact this
    | false =>
      rw [lev, hi]
      exact def_one hK hW (defs_ok hK hW hd k) h hi D M
theorem law_at (hK : W.K = K) (hW : W.w = w) (hd : ∀ f d, G.defs f = some d → ∃ C n x qual st fd ps, DefOk K mg W G f d C n x qual st fd ps ∧ ModOk K mg W G C) {k f : Nat} {d : Df} {C : Cs} {n : Nat} {x qual : Str} {st : Stmt} {fd : FuncData} {ps : List Str} (h : G.defs f = some d) (hi : d.init = false)
    (D : DefOk K mg W G f d C n x qual st fd ps) (M : ModOk K mg W G C) : FnOk P w K mg base CX0 (k + 2) (W.fa f) fd ps (spF W (run G (k + 1)) f) := def_one hK hW (defs_ok hK hW hd k) h hi D M
end
/-- the law's promise -/
theorem law_sp {W : Wd} {G : Gm} {k f : Nat} {H : Hp} {a : Addr} {ns : List Int} (hK : SqL W.K H a (ns.map V.int)) {S' : Sto} (hr : run G k f [.d (.scr ns)] [] = .ok (.d (.bl true)) S') {E : XK} : spF W (run G k) f [.ref a] H (fun v _ => v = .bl true) E :=
  ⟨fun _ => 0, H, [], [.d (.scr ns)], ⟨Sub.refl H, fun n ⟨c, e, _⟩ => by simp at e, fun m n ⟨c, e, _⟩ => by simp at e, fun n c e => by simp at e⟩, .cons ⟨a, rfl, hK⟩ .nil, by
    rw [hr]
    exact fun w α' F' H' x s r => r⟩
def spLaw (K : PySem.W.Frag) : Sp := fun vs H Q _ => ∃ (a : Addr) (ns : List Int), vs = [.ref a] ∧ SqL K H a (ns.map V.int) ∧ ns.length ≤ 63 ∧ ∀ H', Q (.bl true) H'
theorem law_fn {P : Program} {w : World} {K : PySem.W.Frag} {mg : Str → Option Value} {base : Heap} {W : Wd} {G : Gm} {j k f : Nat} {fd : FuncData} {ps : List Str} (hK : W.K = K) (Fk : FnOk P w K mg base CX0 j (W.fa f) fd ps (spF W (run G k) f))
    (hlaw : ∀ ns : List Int, ns.length ≤ 63 → ∃ S', run G k f [.d (.scr ns)] [] = .ok (.d (.bl true)) S') : FnOk P w K mg base CX0 j (W.fa f) fd ps (spLaw K) :=
  Fk.imp fun vs H Q E ⟨a, ns, e, q, hl, kk⟩ => by
    obtain ⟨S', hr⟩ := hlaw ns hl
    subst e hK
    obtain ⟨α, F, S, as, s, r, p⟩ := law_sp (E := E) q hr
    exact ⟨α, F, S, as, s, r, p.imp fun v H' z => by rw [z]; exact kk H'⟩
theorem gd_nil {mg : Str → Option Value} {W : Wd} {G : Gm} : ∀ (x : Str) (f : Nat), ([] : List (Str × Nat)).lookup x = some f → mg x = some (.ref (W.fa f)) ∧ ∃ d, G.defs f = some d ∧ d.init = false := fun _ _ h => nomatch h
/-- by the list's head -/
theorem lk_cons {τ : Type} {R : Str → τ → Prop} {y : Str} {g : τ} {l : List (Str × τ)} (h1 : R y g) (h : ∀ (x : Str) (f : τ), l.lookup x = some f → R x f) : ∀ (x : Str) (f : τ), ((y, g) :: l).lookup x = some f → R x f := fun x f e => by
  rw [List.lookup_cons] at e
  cases q : x == y with
  | true =>
    rw [q] at e
    have q := beq_iff_eq.mp q
    cases e
    subst q
    exact h1
  | false => rw [q] at e; exact h x f e
theorem lk_nil {τ : Type} {R : Str → τ → Prop} : ∀ (x : Str) (f : τ), ([] : List (Str × τ)).lookup x = some f → R x f := fun _ _ h => nomatch h
theorem gd_cons {mg : Str → Option Value} {W : Wd} {G : Gm} {y : Str} {g : Nat} {l : List (Str × Nat)} (h1 : mg y = some (.ref (W.fa g))) (h2 : ∃ d, G.defs g = some d ∧ d.init = false) (h : ∀ (x : Str) (f : Nat), l.lookup x = some f → mg x = some (.ref (W.fa f)) ∧ ∃ d, G.defs f = some d ∧ d.init = false) :
    ∀ (x : Str) (f : Nat), ((y, g) :: l).lookup x = some f → mg x = some (.ref (W.fa f)) ∧ ∃ d, G.defs f = some d ∧ d.init = false := lk_cons (R := fun x f => mg x = some (.ref (W.fa f)) ∧ ∃ d, G.defs f = some d ∧ d.init = false) ⟨h1, h2⟩ h
/-! ### the names of fields -/
def nmOf (NM : List Str) (f : Nat) : Str := match NM[f]? with
  | some x => x
  | none => ⟨(List.replicate (f + 1) 0).toArray⟩
def plainNm (x : Str) : Bool := match x.cps.toList with
  | [] => false
  | c :: _ => c != 0
def nmB (NM : List Str) : Bool := decide NM.Nodup && NM.all plainNm
theorem zeros_not {f : Nat} : plainNm ⟨(List.replicate (f + 1) 0).toArray⟩ = false := by
  unfold plainNm
  simp [List.replicate_succ]
theorem nmOf_inj {NM : List Str} (h : nmB NM = true) : ∀ a b, nmOf NM a = nmOf NM b → a = b := by
  unfold nmB at h
  rw [Bool.and_eq_true] at h
  have nd := of_decide_eq_true h.1
  have pl := List.all_eq_true.mp h.2
  intro a b e
  unfold nmOf at e
  cases ha : NM[a]? with
  | some x =>
    cases hb : NM[b]? with
    | some y =>
      rw [ha, hb] at e
      have e : x = y := e
      subst e
      obtain ⟨la, ea⟩ := List.getElem?_eq_some_iff.mp ha
      obtain ⟨lb, eb⟩ := List.getElem?_eq_some_iff.mp hb
      exact (List.getElem_inj nd).mp (ea.trans eb.symm)
    | none =>
      rw [ha, hb] at e
      have e : x = _ := e
      have := pl x (List.mem_iff_getElem?.mpr ⟨a, ha⟩)
      rw [e, zeros_not] at this
      cases this
  | none =>
    cases hb : NM[b]? with
    | some y =>
      rw [ha, hb] at e
      have e : _ = y := e
      have := pl y (List.mem_iff_getElem?.mpr ⟨b, hb⟩)
      rw [← e, zeros_not] at this
      cases this
    | none =>
      rw [ha, hb] at e
      have e := congrArg (fun s : Str => s.cps.toList.length) e
      simpa using e
theorem nmOf_ne {NM : List Str} {m : Str} (h : (!NM.contains m && plainNm m) = true) : ∀ j, nmOf NM j ≠ m := by
  rw [Bool.and_eq_true] at h
  intro j e
  unfold nmOf at e
  cases hj : NM[j]? with
  | some x =>
    rw [hj] at e
    have e : x = m := e
    have : NM.contains m = true := by
      rw [List.contains_iff_mem, ← e]
      exact List.mem_iff_getElem?.mpr ⟨j, hj⟩
    simp only [this] at h
    exact absurd h.1 (by decide)
  | none =>
    rw [hj] at e
    have e : _ = m := e
    rw [← e, zeros_not] at h
    cases h.2
/-! ### by a list's head, numbers -/
theorem nk_nil {τ : Type} {R : Nat → τ → Prop} : ∀ (x : Nat) (f : τ), List.lookup x ([] : List (Nat × τ)) = some f → R x f := fun _ _ h => nomatch h
theorem nk_cons {τ : Type} {R : Nat → τ → Prop} {y : Nat} {g : τ} {l : List (Nat × τ)} (h1 : R y g) (h : ∀ (x : Nat) (f : τ), List.lookup x l = some f → R x f) : ∀ (x : Nat) (f : τ), List.lookup x ((y, g) :: l) = some f → R x f := fun x f e => by
  rw [List.lookup_cons] at e
  cases q : x == y with
  | true =>
    rw [q] at e
    have q := beq_iff_eq.mp q
    cases e
    subst q
    exact h1
  | false => rw [q] at e; exact h x f e
theorem mk_cons {τ : Type} {R : τ → Prop} {y : τ} {l : List τ} (h1 : R y) (h : ∀ x ∈ l, R x) : ∀ x ∈ y :: l, R x := fun x hx => by
  rcases List.mem_cons.mp hx with e | e
  · rw [e]; exact h1
  · exact h x e
theorem mk_nil {τ : Type} {R : τ → Prop} : ∀ x ∈ ([] : List τ), R x := fun _ h => nomatch h
/-! ### a dict of the module's top -/
/-- the texts of keys -/
inductive KeysR : List Tx → List Value → Prop
  | nil : KeysR [] []
  | cons {z : Tx} {t : Tok} {ks : List Tx} {us : List Value} : KeysR ks us → KeysR (z :: ks) (.str ⟨z.toArray⟩ t :: us)
theorem wd_at : ∀ {ks : List Tx} {kv : List Value} {vs : List V} {us : List Value} {es : List DictEntry}, KeysR ks kv → Vals vs us → es.map (·.key) = kv → es.map (·.val) = us → ∀ z : Tx,
    (es.any (·.refKey) = false) ∧ RelO (wdFind ks vs z) ((es.find? (·.key.isStr ⟨z.toArray⟩)).map (·.val))
  | _, _, _, _, [], hk, hv, e1, e2, z => by
    cases e1
    cases e2
    cases hk
    cases hv
    exact ⟨rfl, trivial⟩
  | _, _, _, _, e :: es, hk, hv, e1, e2, z => by
    rw [List.map_cons] at e1 e2
    subst e1 e2
    generalize hkey : e.key = key at hk
    cases hk with
    | @cons z0 t ks us hk =>
      cases hv with
      | @cons v vs u us' hv hvs =>
        obtain ⟨h1, h2⟩ := wd_at hk hvs rfl rfl z
        have hr : e.refKey = false := by unfold DictEntry.refKey; rw [hkey]
        have hi : e.key.isStr ⟨z.toArray⟩ = decide (z0 = z) := by
          rw [hkey]
          show ((⟨z0.toArray⟩ : Str) == ⟨z.toArray⟩) = decide (z0 = z)
          by_cases q : z0 = z
          · subst q; simp
          · have : ¬ ((⟨z0.toArray⟩ : Str) = ⟨z.toArray⟩) := fun w => q ((str_eq _ _).mp w)
            simp [q, this]
        refine ⟨by rw [List.any_cons, hr, h1]; rfl, ?_⟩
        rw [List.find?_cons, hi]
        unfold wdFind
        simp only [List.zip_cons_cons, List.find?_cons]
        by_cases q : z0 = z
        · simp only [q, decide_true]
          exact hv
        · simp only [q, decide_false]
          exact h2
theorem wd_mk {W : Wd} {a : Addr} {ks : List Tx} {kv : List Value} {vs : List V} {us : List Value} {es : Array DictEntry} {n : Nat} (h1 : W.K.lookup a = some ⟨.type "dict", none, .dict es n, #[]⟩) (h2 : PySem.W.KeysLit W.w.params es.toList) (h3 : (a == sysModules) = false)
    (hk : KeysR ks kv) (hv : Vals vs us) (e1 : es.toList.map (·.key) = kv) (e2 : es.toList.map (·.val) = us) : WdR W a ks vs := by
  have hl : ks.length = vs.length := by
    have a1 : ks.length = kv.length := by
      clear e1
      induction hk with
      | nil => rfl
      | cons _ ih => simp [ih]
    have a2 : vs.length = us.length := Vals.length hv
    rw [a1, a2, ← e1, ← e2]
    simp
  refine ⟨hl, es, n, h1, h2, h3, fun z => ?_⟩
  obtain ⟨h5, h6⟩ := wd_at hk hv e1 e2 z
  refine ⟨(es.toList.find? (·.key.isStr ⟨z.toArray⟩)).map (·.val), ?_, h6⟩
  unfold PySem.W.nsIn
  rw [h1]
  dsimp only
  cases hf : es.toList.find? (·.key.isStr ⟨z.toArray⟩) with
  | some e => rfl
  | none =>
    dsimp only
    rw [if_neg (by rw [h5]; exact Bool.false_ne_true)]
    rfl
theorem gc_nil {mg : Str → Option Value} {W : Wd} {G : Gm} : ∀ (x : Str) (g : Nat), ([] : List (Str × Nat)).lookup x = some g → ∃ v u, mg x = some u ∧ RelV v u ∧ ∀ F, Rp W F (G.con g) v := fun _ _ h => nomatch h
theorem gc_cons {mg : Str → Option Value} {W : Wd} {G : Gm} {y : Str} {f : Nat} {l : List (Str × Nat)} (h1 : ∃ v u, mg y = some u ∧ RelV v u ∧ ∀ F, Rp W F (G.con f) v) (h : ∀ (x : Str) (g : Nat), l.lookup x = some g → ∃ v u, mg x = some u ∧ RelV v u ∧ ∀ F, Rp W F (G.con g) v) :
    ∀ (x : Str) (g : Nat), ((y, f) :: l).lookup x = some g → ∃ v u, mg x = some u ∧ RelV v u ∧ ∀ F, Rp W F (G.con g) v := fun x g e => by
  rw [List.lookup_cons] at e
  cases q : x == y with
  | true =>
    rw [q] at e
    have q := beq_iff_eq.mp q
    cases e
    subst q
    exact h1
  | false => rw [q] at e; exact h x g e
theorem gb_nil {mg : Str → Option Value} : ∀ x : Str, x ∈ ([] : List Str) → mg x = none := fun _ h => nomatch h
theorem gb_cons {mg : Str → Option Value} {y : Str} {l : List Str} (h1 : mg y = none) (h : ∀ x : Str, x ∈ l → mg x = none) : ∀ x : Str, x ∈ y :: l → mg x = none := fun x hx => by
  rcases List.mem_cons.mp hx with e | e
  · rw [e]; exact h1
  · exact h x e
theorem walk {l : PySem.W.OpenLaw} {q : Program} {loose : List Str} {XP : (Str → Option Value) → Heap → Prop} {YP : World → Heap → Prop} {d : DefRec} {K : Params → PySem.W.Frag} {k : Nat} (hn : l.most = some 63) (hdf : d.params.defaults = []) (hr : Room k callerA)
    (hY : ∀ (w : World) (h : Heap), YP w h → (K w.params).In h)
    (F : ∀ (w : World) (mg : Str → Option Value) (fa : Addr) (h : Heap), (K w.params).In h → h.Ns mainGlobals mg → mg d.name = some (.ref fa) →
      ∃ fd : FuncData, (∀ (s : Shared) (u : Value), BindsTo s fd ⟨[u], []⟩ [("script", u)]) ∧ ∀ base : Heap, (K w.params).In base → base.Ns mainGlobals mg → FnOk l.prog w (K w.params) mg base CX0 k fa fd ["script"] (spLaw (K w.params))) :
    PySem.W.WalkO q loose XP YP l.row.toRowW d [] (fun f vs => PySem.call f vs) :=
  L2.walk_of (n := 63) (k := k) (x := "script") (CX := fun _ => CX0) (sp := fun w => spLaw (K w.params)) hn (by decide) hdf hr hY F (fun _ _ a ns hl _ hS => ⟨a, ns, rfl, hS, hl, fun _ => rfl⟩) fun _ _ _ _ _ z => z
theorem room_all {k : Nat} (h : k ≤ 230) : Room k callerA := Room.mono (k := 230) ⟨rfl, by decide, by decide⟩ h
end Z
end

section
set_option maxHeartbeats 1000000
set_option maxRecDepth 10000
/-! Z19: running the small language by rewriting: every continuation has a name, so that nothing is looked at before its turn. -/
namespace Z
open PySem L2

abbrev Rc := Nat → List Vl → Sto → Res Vl
section
variable {α β : Type} {a : α} {e : Exn} {S : Sto} {ρ : Env} {v : Vl}
@[simp] theorem bind_ok (f : α → Sto → Res β) : (Res.ok a S).bind f = f a S := (rfl)
@[simp] theorem bind_bad (f : α → Sto → Res β) : (Res.bad : Res α).bind f = .bad := (rfl)
@[simp] theorem bind_exc (f : α → Sto → Res β) : (Res.exc e S : Res α).bind f = .exc e S := (rfl)
@[simp] theorem thn_ok (f : α → Sto → RS) : (Res.ok a S).thn f = f a S := (rfl)
@[simp] theorem thn_bad (f : α → Sto → RS) : (Res.bad : Res α).thn f = .bad := (rfl)
@[simp] theorem thn_exc (f : α → Sto → RS) : (Res.exc e S : Res α).thn f = .exc e S := (rfl)
@[simp] theorem seq_nx' (f : Env → Sto → RS) : (RS.nx ρ S).seq f = f ρ S := (rfl)
@[simp] theorem seq_rt (f : Env → Sto → RS) : (RS.rt v S).seq f = .rt v S := (rfl)
@[simp] theorem seq_bk (f : Env → Sto → RS) : (RS.bk ρ S).seq f = .bk ρ S := (rfl)
@[simp] theorem seq_ct (f : Env → Sto → RS) : (RS.ct ρ S).seq f = .ct ρ S := (rfl)
@[simp] theorem seq_exc (f : Env → Sto → RS) : (RS.exc e S).seq f = .exc e S := (rfl)
@[simp] theorem seq_bad (f : Env → Sto → RS) : (RS.bad).seq f = .bad := (rfl)
@[simp] theorem mapS_nx (f : Sto → Sto) : (RS.nx ρ S).mapS f = .nx ρ (f S) := (rfl)
@[simp] theorem mapS_rt (f : Sto → Sto) : (RS.rt v S).mapS f = .rt v (f S) := (rfl)
@[simp] theorem seq_ite {c : Prop} [Decidable c] {x y : RS} (f : Env → Sto → RS) : (if c then x else y).seq f = if c then x.seq f else y.seq f := by split <;> rfl
variable {r r' : Res α} {q q' : RS}
end
section
variable {G : Gm} {rc : Rc} {ρ : Env} {S : Sto} {a b c e : Ex} {es ks : List Ex} {o : Op} {x y z : Vl} {i j : Int} {n m : Nat} {d : D} {ds : List D} {vs : List Vl} {k : Bool} {lo hi : Option Ex} {t : Tg} {s : St} {ss tt : List St}
@[simp] theorem ev_var : ev G rc (.var n) ρ S = pick ((ρ[n]?).bind id) S := (rfl)
@[simp] theorem pick_some : pick (some x) S = .ok x S := (rfl)
@[simp] theorem ev_con : ev G rc (.con d) ρ S = .ok (.d d) S := (rfl)
@[simp] theorem ev_glob : ev G rc (.glob n) ρ S = .ok (.d (G.con n)) S := (rfl)
def kOp2 (o : Op) (x : Vl) : Vl → Sto → Res Vl := fun y S => binop o x y S
@[simp] theorem kOp2_a : kOp2 o x y S = binop o x y S := (rfl)
def kOp (G : Gm) (rc : Rc) (o : Op) (b : Ex) (ρ : Env) : Vl → Sto → Res Vl := fun x S => (ev G rc b ρ S).bind (kOp2 o x)
@[simp] theorem kOp_a : kOp G rc o b ρ x S = (ev G rc b ρ S).bind (kOp2 o x) := (rfl)
@[simp] theorem ev_op : ev G rc (.op o a b) ρ S = (ev G rc a ρ S).bind (kOp G rc o b ρ) := (rfl)
def kNeg : Vl → Sto → Res Vl := fun x S => match x with
    | .d (.int i) => .ok (.d (.int (-i))) S
    | _ => .bad
@[simp] theorem kNeg_a : kNeg (.d (.int i)) S = .ok (.d (.int (-i))) S := (rfl)
@[simp] theorem ev_neg : ev G rc (.neg a) ρ S = (ev G rc a ρ S).bind kNeg := (rfl)
def kCm2 (c : Cm) (x : Vl) : Vl → Sto → Res Vl := fun y S => cmpop c x y S
@[simp] theorem kCm2_a {c : Cm} : kCm2 c x y S = cmpop c x y S := (rfl)
def kCm (G : Gm) (rc : Rc) (o : Cm) (b : Ex) (ρ : Env) : Vl → Sto → Res Vl := fun x S => (ev G rc b ρ S).bind (kCm2 o x)
@[simp] theorem kCm_a {c : Cm} : kCm G rc c b ρ x S = (ev G rc b ρ S).bind (kCm2 c x) := (rfl)
@[simp] theorem ev_cmp {c : Cm} : ev G rc (.cmp c a b) ρ S = (ev G rc a ρ S).bind (kCm G rc c b ρ) := (rfl)
def kCh3 (G : Gm) (rc : Rc) (c : Cm) (e : Ex) (ρ : Env) (y : Vl) : Vl → Sto → Res Vl := fun r S => match r with
    | .d (.bl true) => (ev G rc e ρ S).bind (kCm2 c y)
    | .d (.bl false) => .ok (.d (.bl false)) S
    | _ => .bad
@[simp] theorem kCh3_t {c : Cm} : kCh3 G rc c e ρ y (.d (.bl true)) S = (ev G rc e ρ S).bind (kCm2 c y) := (rfl)
@[simp] theorem kCh3_f {c : Cm} : kCh3 G rc c e ρ y (.d (.bl false)) S = .ok (.d (.bl false)) S := (rfl)
def kCh2 (G : Gm) (rc : Rc) (c c' : Cm) (e : Ex) (ρ : Env) (x : Vl) : Vl → Sto → Res Vl := fun y S => (cmpop c x y S).bind (kCh3 G rc c' e ρ y)
@[simp] theorem kCh2_a {c c' : Cm} : kCh2 G rc c c' e ρ x y S = (cmpop c x y S).bind (kCh3 G rc c' e ρ y) := (rfl)
def kCh (G : Gm) (rc : Rc) (c c' : Cm) (b e : Ex) (ρ : Env) : Vl → Sto → Res Vl := fun x S => (ev G rc b ρ S).bind (kCh2 G rc c c' e ρ x)
@[simp] theorem kCh_a {c c' : Cm} : kCh G rc c c' b e ρ x S = (ev G rc b ρ S).bind (kCh2 G rc c c' e ρ x) := (rfl)
@[simp] theorem ev_chain {c c' : Cm} : ev G rc (.chain c c' a b e) ρ S = (ev G rc a ρ S).bind (kCh G rc c c' b e ρ) := (rfl)
def kAnd2 (G : Gm) (rc : Rc) (b : Ex) (ρ : Env) (x : Vl) : Bool → Sto → Res Vl := fun k S => if k then ev G rc b ρ S else .ok x S
@[simp] theorem kAnd2_t : kAnd2 G rc b ρ x true S = ev G rc b ρ S := (rfl)
@[simp] theorem kAnd2_f : kAnd2 G rc b ρ x false S = .ok x S := (rfl)
def kAnd (G : Gm) (rc : Rc) (b : Ex) (ρ : Env) : Vl → Sto → Res Vl := fun x S => (tru x S).bind (kAnd2 G rc b ρ x)
@[simp] theorem kAnd_a : kAnd G rc b ρ x S = (tru x S).bind (kAnd2 G rc b ρ x) := (rfl)
@[simp] theorem ev_and : ev G rc (.and a b) ρ S = (ev G rc a ρ S).bind (kAnd G rc b ρ) := (rfl)
def kOr2 (G : Gm) (rc : Rc) (b : Ex) (ρ : Env) (x : Vl) : Bool → Sto → Res Vl := fun k S => if k then .ok x S else ev G rc b ρ S
@[simp] theorem kOr2_t : kOr2 G rc b ρ x true S = .ok x S := (rfl)
@[simp] theorem kOr2_f : kOr2 G rc b ρ x false S = ev G rc b ρ S := (rfl)
def kOr (G : Gm) (rc : Rc) (b : Ex) (ρ : Env) : Vl → Sto → Res Vl := fun x S => (tru x S).bind (kOr2 G rc b ρ x)
@[simp] theorem kOr_a : kOr G rc b ρ x S = (tru x S).bind (kOr2 G rc b ρ x) := (rfl)
@[simp] theorem ev_or : ev G rc (.or a b) ρ S = (ev G rc a ρ S).bind (kOr G rc b ρ) := (rfl)
def kNot2 : Bool → Sto → Res Vl := fun k S => .ok (.d (.bl (!k))) S
@[simp] theorem kNot2_a : kNot2 k S = .ok (.d (.bl (!k))) S := (rfl)
def kNot : Vl → Sto → Res Vl := fun x S => (tru x S).bind kNot2
@[simp] theorem kNot_a : kNot x S = (tru x S).bind kNot2 := (rfl)
@[simp] theorem ev_not : ev G rc (.not a) ρ S = (ev G rc a ρ S).bind kNot := (rfl)
def kIte2 (G : Gm) (rc : Rc) (a b : Ex) (ρ : Env) : Bool → Sto → Res Vl := fun k S => if k then ev G rc a ρ S else ev G rc b ρ S
@[simp] theorem kIte2_t : kIte2 G rc a b ρ true S = ev G rc a ρ S := (rfl)
@[simp] theorem kIte2_f : kIte2 G rc a b ρ false S = ev G rc b ρ S := (rfl)
def kIte (G : Gm) (rc : Rc) (a b : Ex) (ρ : Env) : Vl → Sto → Res Vl := fun x S => (tru x S).bind (kIte2 G rc a b ρ)
@[simp] theorem kIte_a : kIte G rc a b ρ x S = (tru x S).bind (kIte2 G rc a b ρ) := (rfl)
@[simp] theorem ev_ite : ev G rc (.ite c a b) ρ S = (ev G rc c ρ S).bind (kIte G rc a b ρ) := (rfl)
def kTup : List Vl → Sto → Res Vl := fun vs S => match pures vs with
    | some ds => if decide (ds.length ≤ most) then .ok (.d (.tup ds)) S else .bad
    | none => .bad
@[simp] theorem kTup_a : kTup vs S = (match pures vs with
    | some ds => if decide (ds.length ≤ most) then .ok (.d (.tup ds)) S else .bad
    | none => .bad) := (rfl)
@[simp] theorem ev_tup : ev G rc (.tup es) ρ S = (evs G rc es ρ S).bind kTup := (rfl)
def kLst (cell : Bool) : List Vl → Sto → Res Vl := fun vs S => newList cell vs S
@[simp] theorem kLst_a : kLst k vs S = newList k vs S := (rfl)
@[simp] theorem ev_lst : ev G rc (.lst k es) ρ S = (evs G rc es ρ S).bind (kLst k) := (rfl)
def kIx2 (x : Vl) : Vl → Sto → Res Vl := fun y S => index x y S
@[simp] theorem kIx2_a : kIx2 x y S = index x y S := (rfl)
def kIx (G : Gm) (rc : Rc) (b : Ex) (ρ : Env) : Vl → Sto → Res Vl := fun x S => (ev G rc b ρ S).bind (kIx2 x)
@[simp] theorem kIx_a : kIx G rc b ρ x S = (ev G rc b ρ S).bind (kIx2 x) := (rfl)
@[simp] theorem ev_ix : ev G rc (.ix a b) ρ S = (ev G rc a ρ S).bind (kIx G rc b ρ) := (rfl)
def kSome : Vl → Sto → Res (Option Int) := fun v S => match v with
    | .d (.int i) => .ok (some i) S
    | _ => .bad
@[simp] theorem kSome_a : kSome (.d (.int i)) S = .ok (some i) S := (rfl)
@[simp] theorem evo_none : evo G rc none ρ S = .ok none S := (rfl)
@[simp] theorem evo_some : evo G rc (some a) ρ S = (ev G rc a ρ S).bind kSome := (rfl)
def kSl3 (x : Vl) (l : Option Int) : Option Int → Sto → Res Vl := fun h S => slice x l h S
@[simp] theorem kSl3_a {l h : Option Int} : kSl3 x l h S = slice x l h S := (rfl)
def kSl2 (G : Gm) (rc : Rc) (hi : Option Ex) (ρ : Env) (x : Vl) : Option Int → Sto → Res Vl := fun l S => (evo G rc hi ρ S).bind (kSl3 x l)
@[simp] theorem kSl2_a {l : Option Int} : kSl2 G rc hi ρ x l S = (evo G rc hi ρ S).bind (kSl3 x l) := (rfl)
def kSl (G : Gm) (rc : Rc) (lo hi : Option Ex) (ρ : Env) : Vl → Sto → Res Vl := fun x S => (evo G rc lo ρ S).bind (kSl2 G rc hi ρ x)
@[simp] theorem kSl_a : kSl G rc lo hi ρ x S = (evo G rc lo ρ S).bind (kSl2 G rc hi ρ x) := (rfl)
@[simp] theorem ev_sl : ev G rc (.sl a lo hi) ρ S = (ev G rc a ρ S).bind (kSl G rc lo hi ρ) := (rfl)
def kCall (rc : Rc) (f : Nat) : List Vl → Sto → Res Vl := fun vs S => rc f vs S
@[simp] theorem kCall_a : kCall rc n vs S = rc n vs S := (rfl)
@[simp] theorem ev_call : ev G rc (.call n es) ρ S = (evs G rc es ρ S).bind (kCall rc n) := (rfl)
def kBf (b : Bf) (cell : Bool) : List Vl → Sto → Res Vl := fun vs S => builtin b cell vs S
@[simp] theorem kBf_a {b : Bf} : kBf b k vs S = builtin b k vs S := (rfl)
@[simp] theorem ev_bf {b : Bf} : ev G rc (.bf b k es) ρ S = (evs G rc es ρ S).bind (kBf b k) := (rfl)
def kBm2 (m : Bm) (x : Vl) : List Vl → Sto → Res Vl := fun vs S => method m x vs S
@[simp] theorem kBm2_a {m : Bm} : kBm2 m x vs S = method m x vs S := (rfl)
def kBm (G : Gm) (rc : Rc) (m : Bm) (es : List Ex) (ρ : Env) : Vl → Sto → Res Vl := fun x S => if bmTy m x S then (evs G rc es ρ S).bind (kBm2 m x) else .bad
@[simp] theorem kBm_a {m : Bm} : kBm G rc m es ρ x S = if bmTy m x S then (evs G rc es ρ S).bind (kBm2 m x) else .bad := (rfl)
@[simp] theorem ev_bm {m : Bm} : ev G rc (.bm m a es) ρ S = (ev G rc a ρ S).bind (kBm G rc m es ρ) := (rfl)
def kCons2 (v : Vl) : List Vl → Sto → Res (List Vl) := fun vs S => .ok (v :: vs) S
@[simp] theorem kCons2_a : kCons2 x vs S = .ok (x :: vs) S := (rfl)
def kCons (G : Gm) (rc : Rc) (es : List Ex) (ρ : Env) : Vl → Sto → Res (List Vl) := fun v S => (evs G rc es ρ S).bind (kCons2 v)
@[simp] theorem kCons_a : kCons G rc es ρ x S = (evs G rc es ρ S).bind (kCons2 x) := (rfl)
@[simp] theorem evs_nil : evs G rc [] ρ S = .ok [] S := (rfl)
@[simp] theorem evs_cons : evs G rc (e :: es) ρ S = (ev G rc e ρ S).bind (kCons G rc es ρ) := (rfl)
@[simp] theorem evc_none : evc G rc none ρ S = .ok true S := (rfl)
@[simp] theorem evc_some : evc G rc (some e) ρ S = (ev G rc e ρ S).bind tru := (rfl)
def kYld : Vl → Sto → Res (Option Vl) := fun y S => .ok (some y) S
@[simp] theorem kYld_a : kYld x S = .ok (some x) S := (rfl)
def kIf (G : Gm) (rc : Rc) (e : Ex) (ρ : Env) : Bool → Sto → Res (Option Vl) := fun b S => if b then (ev G rc e ρ S).bind kYld else .ok none S
@[simp] theorem kIf_t : kIf G rc e ρ true S = (ev G rc e ρ S).bind kYld := (rfl)
@[simp] theorem kIf_f : kIf G rc e ρ false S = .ok none S := (rfl)
/-- a turn of a comprehension -/
def lcB (G : Gm) (rc : Rc) (c : Option Ex) (e : Ex) : Env → Sto → Res (Option Vl) := fun ρ S => (evc G rc c ρ S).bind (kIf G rc e ρ)
@[simp] theorem lcB_a {c : Option Ex} : lcB G rc c e ρ S = (evc G rc c ρ S).bind (kIf G rc e ρ) := (rfl)
def kLc2 (cell : Bool) (lk : Option (Nat × Cell)) : List Vl → Sto → Res Vl := fun ys S => newList cell ys (unlock S lk)
@[simp] theorem kLc2_a {lk : Option (Nat × Cell)} : kLc2 k lk vs S = newList k vs (unlock S lk) := (rfl)
def kLc (G : Gm) (rc : Rc) (cell : Bool) (c : Option Ex) (e : Ex) (t : Tg) (ρ : Env) : List Vl × Option (Nat × Cell) → Sto → Res Vl := fun q S => (turns (lcB G rc c e) t ρ q.1 [] (lock S q.2)).bind (kLc2 cell q.2)
@[simp] theorem kLc_a {c : Option Ex} {lk : Option (Nat × Cell)} : kLc G rc k c e t ρ (vs, lk) S = (turns (lcB G rc c e) t ρ vs [] (lock S lk)).bind (kLc2 k lk) := (rfl)
def kWk (k : Ik) : List Vl → Sto → Res (List Vl × Option (Nat × Cell)) := fun vs S => walkF k vs S
@[simp] theorem kWk_a {k : Ik} : kWk k vs S = walkF k vs S := (rfl)
@[simp] theorem ev_lc {k' : Ik} {c : Option Ex} {own : List Nat} : ev G rc (.lc k e t own k' es c) ρ S = ((evs G rc es ρ S).bind (kWk k')).bind (kLc G rc k c e t (wipe ρ own)) := (rfl)
def kFld (f : Nat) (cs : List Nat) : Vl → Sto → Res Vl := fun x S => field x f cs S
@[simp] theorem kFld_a {cs : List Nat} : kFld n cs x S = field x n cs S := (rfl)
@[simp] theorem ev_fld {cs : List Nat} : ev G rc (.fld a n cs) ρ S = (ev G rc a ρ S).bind (kFld n cs) := (rfl)
def kDct (t cell : Bool) : List Vl → Sto → Res Vl := fun vs S => dispDct t cell vs S
@[simp] theorem kDct_a {t : Bool} : kDct t k vs S = dispDct t k vs S := (rfl)
@[simp] theorem ev_dct {t : Bool} : ev G rc (.dct t k es) ρ S = (evs G rc es ρ S).bind (kDct t k) := (rfl)
@[simp] theorem dispDct_nil {t : Bool} : dispDct t k [] S = newDct t k [] S := (rfl)
@[simp] theorem newDct_t {t : Bool} {kvs : List (D × Vl)} : newDct t true kvs S = .ok (.p S.length) (S ++ [.dct t kvs]) := (rfl)
def kCv (rc : Rc) (f : Nat) : List Vl → Sto → Res Vl := fun vs S => rc f vs S
@[simp] theorem kCv_a : kCv rc n vs S = rc n vs S := (rfl)
def kCalv (G : Gm) (rc : Rc) (es : List Ex) (ρ : Env) (S : Sto) : Option Vl → Res Vl := fun v => match v with
    | some (.d (.fn f)) => if G.callable f then (evs G rc es ρ S).bind (kCv rc f) else .bad
    | _ => .bad
@[simp] theorem kCalv_a : kCalv G rc es ρ S (some (.d (.fn n))) = if G.callable n then (evs G rc es ρ S).bind (kCv rc n) else .bad := (rfl)
@[simp] theorem ev_callv : ev G rc (.callv n es) ρ S = kCalv G rc es ρ S ((ρ[n]?).bind id) := by
  show (match (ρ[n]?).bind id with
    | some (.d (.fn f)) => if G.callable f then (evs G rc es ρ S).bind (fun vs S => rc f vs S) else .bad
    | _ => .bad) = _
  rfl
def kMt2 (rc : Rc) (f : Nat) (x : Vl) : List Vl → Sto → Res Vl := fun vs S => rc f (x :: vs) S
@[simp] theorem kMt2_a : kMt2 rc n x vs S = rc n (x :: vs) S := (rfl)
def kMt1 (G : Gm) (rc : Rc) (es : List Ex) (ρ : Env) (x : Vl) (S : Sto) : Option Nat → Res Vl := fun f => match f with
    | some f => (evs G rc es ρ S).bind (kMt2 rc f x)
    | none => .bad
@[simp] theorem kMt1_a : kMt1 G rc es ρ x S (some n) = (evs G rc es ρ S).bind (kMt2 rc n x) := (rfl)
def kMt (G : Gm) (rc : Rc) (tab : List (Nat × Nat)) (es : List Ex) (ρ : Env) : Vl → Sto → Res Vl := fun x S => kMt1 G rc es ρ x S ((clsOf x S).bind fun c => List.lookup c tab)
@[simp] theorem kMt_a {tab : List (Nat × Nat)} : kMt G rc tab es ρ x S = kMt1 G rc es ρ x S ((clsOf x S).bind fun c => List.lookup c tab) := (rfl)
@[simp] theorem ev_meth {tab : List (Nat × Nat)} : ev G rc (.meth a tab es) ρ S = (ev G rc a ρ S).bind (kMt G rc tab es ρ) := by
  show (ev G rc a ρ S).bind (fun x S => match (clsOf x S).bind fun c => List.lookup c tab with
    | some f => (evs G rc es ρ S).bind fun vs S => rc f (x :: vs) S
    | none => .bad) = _
  rfl
def kMk (rc : Rc) (c f : Nat) : List Vl → Sto → Res Vl := fun vs S => made S.length (rc f (.p S.length :: vs) (S ++ [.ins c []]))
@[simp] theorem kMk_a : kMk rc n m vs S = made S.length (rc m (.p S.length :: vs) (S ++ [.ins n []])) := (rfl)
@[simp] theorem ev_make : ev G rc (.make n m es) ρ S = (evs G rc es ρ S).bind (kMk rc n m) := (rfl)
@[simp] theorem made_a : made n (.ok (.d .non) S) = .ok (.p n) S := (rfl)
def kYldK : D × Vl → Sto → Res (Option (D × Vl)) := fun y S => .ok (some y) S
@[simp] theorem kYldK_a {y : D × Vl} : kYldK y S = .ok (some y) S := (rfl)
def kKv (y : Vl) : Vl → Sto → Res (D × Vl) := fun z S => keyVal y z S
@[simp] theorem kKv_a : kKv (.d d) x S = .ok (d, x) S := (rfl)
def kKv1 (G : Gm) (rc : Rc) (e : Ex) (ρ : Env) : Vl → Sto → Res (D × Vl) := fun y S => (ev G rc e ρ S).bind (kKv y)
@[simp] theorem kKv1_a : kKv1 G rc e ρ x S = (ev G rc e ρ S).bind (kKv x) := (rfl)
def kIfK (G : Gm) (rc : Rc) (a b : Ex) (ρ : Env) : Bool → Sto → Res (Option (D × Vl)) := fun k S => if k then ((ev G rc a ρ S).bind (kKv1 G rc b ρ)).bind kYldK else .ok none S
@[simp] theorem kIfK_t : kIfK G rc a b ρ true S = ((ev G rc a ρ S).bind (kKv1 G rc b ρ)).bind kYldK := (rfl)
@[simp] theorem kIfK_f : kIfK G rc a b ρ false S = .ok none S := (rfl)
/-- a turn of a dict comprehension -/
def dcB (G : Gm) (rc : Rc) (c : Option Ex) (a b : Ex) : Env → Sto → Res (Option (D × Vl)) := fun ρ S => (evc G rc c ρ S).bind (kIfK G rc a b ρ)
@[simp] theorem dcB_a {c : Option Ex} : dcB G rc c a b ρ S = (evc G rc c ρ S).bind (kIfK G rc a b ρ) := (rfl)
def kDc2 (cell : Bool) (lk : Option (Nat × Cell)) : List (D × Vl) → Sto → Res Vl := fun ys S => newDct false cell ys (unlock S lk)
@[simp] theorem kDc2_a {lk : Option (Nat × Cell)} {kvs : List (D × Vl)} : kDc2 k lk kvs S = newDct false k kvs (unlock S lk) := (rfl)
def kDc (G : Gm) (rc : Rc) (cell : Bool) (c : Option Ex) (a b : Ex) (t : Tg) (ρ : Env) : List Vl × Option (Nat × Cell) → Sto → Res Vl := fun q S => (turnsG putD (dcB G rc c a b) t ρ q.1 [] (lock S q.2)).bind (kDc2 cell q.2)
@[simp] theorem kDc_a {c : Option Ex} {lk : Option (Nat × Cell)} : kDc G rc k c a b t ρ (vs, lk) S = (turnsG putD (dcB G rc c a b) t ρ vs [] (lock S lk)).bind (kDc2 k lk) := (rfl)
@[simp] theorem ev_dc {k' : Ik} {c : Option Ex} {own : List Nat} : ev G rc (.dc k a b t own k' es c) ρ S = ((evs G rc es ρ S).bind (kWk k')).bind (kDc G rc k c a b t (wipe ρ own)) := (rfl)
def kSc2 (cell : Bool) (lk : Option (Nat × Cell)) : List Int → Sto → Res Vl := fun ys S => newList cell (ys.map fun i => .d (.int i)) (unlock S lk)
@[simp] theorem kSc2_a {lk : Option (Nat × Cell)} {ns : List Int} : kSc2 k lk ns S = newList k (ns.map fun i => .d (.int i)) (unlock S lk) := (rfl)
def kSc (G : Gm) (rc : Rc) (cell : Bool) (c : Option Ex) (e : Ex) (t : Tg) (ρ : Env) : List Vl × Option (Nat × Cell) → Sto → Res Vl := fun q S => (turnsG putI (lcB G rc c e) t ρ q.1 [] (lock S q.2)).bind (kSc2 cell q.2)
@[simp] theorem kSc_a {c : Option Ex} {lk : Option (Nat × Cell)} : kSc G rc k c e t ρ (vs, lk) S = (turnsG putI (lcB G rc c e) t ρ vs [] (lock S lk)).bind (kSc2 k lk) := (rfl)
@[simp] theorem ev_sc {k' : Ik} {c : Option Ex} {own : List Nat} : ev G rc (.sc k e t own k' es c) ρ S = ((evs G rc es ρ S).bind (kWk k')).bind (kSc G rc k c e t (wipe ρ own)) := (rfl)
def sRt : Vl → Sto → RS := fun v S => .rt v S
@[simp] theorem sRt_a : sRt x S = .rt x S := (rfl)
@[simp] theorem exs_nil : exs G rc [] ρ S = .nx ρ S := (rfl)
@[simp] theorem exs_cons : exs G rc (s :: ss) ρ S = (ex G rc s ρ S).seq (exs G rc ss) := (rfl)
def sBind (r : Option Env) (S : Sto) : RS := match r with
    | some ρ => .nx ρ S
    | none => .bad
@[simp] theorem sBind_s : sBind (some ρ) S = .nx ρ S := (rfl)
def sAsg (t : Tg) (ρ : Env) : Vl → Sto → RS := fun v S => sBind (bindT t v ρ) S
@[simp] theorem sAsg_v : sAsg (.var n) ρ x S = .nx (ρ.set n (some x)) S := (rfl)
@[simp] theorem sAsg_t {ts : List Tg} : sAsg (.tup ts) ρ x S = sBind (bindT (.tup ts) x ρ) S := (rfl)
@[simp] theorem ex_asg : ex G rc (.asg t e) ρ S = (ev G rc e ρ S).thn (sAsg t ρ) := (rfl)
def sStore (ρ : Env) (r : Option Sto) : RS := match r with
    | some S => .nx ρ S
    | none => .bad
@[simp] theorem sStore_s : sStore ρ (some S) = .nx ρ S := (rfl)
def sSub3 (ρ : Env) (v x : Vl) : Vl → Sto → RS := fun k S => sStore ρ (setItem x k v S)
@[simp] theorem sSub3_a : sSub3 ρ x y z S = sStore ρ (setItem y z x S) := (rfl)
def sSub2 (G : Gm) (rc : Rc) (i : Ex) (ρ : Env) (v : Vl) : Vl → Sto → RS := fun x S => (ev G rc i ρ S).thn (sSub3 ρ v x)
@[simp] theorem sSub2_a : sSub2 G rc a ρ x y S = (ev G rc a ρ S).thn (sSub3 ρ x y) := (rfl)
def sSub (G : Gm) (rc : Rc) (o i : Ex) (ρ : Env) : Vl → Sto → RS := fun v S => (ev G rc o ρ S).thn (sSub2 G rc i ρ v)
@[simp] theorem sSub_a : sSub G rc a b ρ x S = (ev G rc a ρ S).thn (sSub2 G rc b ρ x) := (rfl)
@[simp] theorem ex_sub : ex G rc (.sub a b e) ρ S = (ev G rc e ρ S).thn (sSub G rc a b ρ) := (rfl)
def sFld2 (f : Nat) (cs : List Nat) (ρ : Env) (v : Vl) : Vl → Sto → RS := fun x S => sStore ρ (setField x v f cs S)
@[simp] theorem sFld2_a {cs : List Nat} : sFld2 n cs ρ x y S = sStore ρ (setField y x n cs S) := (rfl)
def sFld (G : Gm) (rc : Rc) (o : Ex) (f : Nat) (cs : List Nat) (ρ : Env) : Vl → Sto → RS := fun v S => (ev G rc o ρ S).thn (sFld2 f cs ρ v)
@[simp] theorem sFld_a {cs : List Nat} : sFld G rc a n cs ρ x S = (ev G rc a ρ S).thn (sFld2 n cs ρ x) := (rfl)
@[simp] theorem ex_fld {cs : List Nat} : ex G rc (.fld a n cs e) ρ S = (ev G rc e ρ S).thn (sFld G rc a n cs ρ) := (rfl)
def sFa4 (f : Nat) (cs : List Nat) (ρ : Env) (x : Vl) : Vl → Sto → RS := fun z S => sStore ρ (setField x z f cs S)
@[simp] theorem sFa4_a {cs : List Nat} : sFa4 n cs ρ x y S = sStore ρ (setField x y n cs S) := (rfl)
def sFa3 (f : Nat) (cs : List Nat) (o : Op) (ρ : Env) (x u : Vl) : Vl → Sto → RS := fun y S => (augop o u y S).thn (sFa4 f cs ρ x)
@[simp] theorem sFa3_a {cs : List Nat} : sFa3 n cs o ρ x y z S = (augop o y z S).thn (sFa4 n cs ρ x) := (rfl)
def sFa2 (G : Gm) (rc : Rc) (f : Nat) (cs : List Nat) (o : Op) (e : Ex) (ρ : Env) (x : Vl) : Vl → Sto → RS := fun u S => (ev G rc e ρ S).thn (sFa3 f cs o ρ x u)
@[simp] theorem sFa2_a {cs : List Nat} : sFa2 G rc n cs o e ρ x y S = (ev G rc e ρ S).thn (sFa3 n cs o ρ x y) := (rfl)
def sFa1 (G : Gm) (rc : Rc) (f : Nat) (cs : List Nat) (o : Op) (e : Ex) (ρ : Env) : Vl → Sto → RS := fun x S => (field x f cs S).thn (sFa2 G rc f cs o e ρ x)
@[simp] theorem sFa1_a {cs : List Nat} : sFa1 G rc n cs o e ρ x S = (field x n cs S).thn (sFa2 G rc n cs o e ρ x) := (rfl)
@[simp] theorem ex_fldaug {cs : List Nat} : ex G rc (.fldaug a n cs o e) ρ S = (ev G rc a ρ S).thn (sFa1 G rc n cs o e ρ) := (rfl)
def sPar2 (n m : Nat) (ρ : Env) (v : Vl) : Vl → Sto → RS := fun w S => .nx ((ρ.set n (some v)).set m (some w)) S
@[simp] theorem sPar2_a : sPar2 n m ρ x y S = .nx ((ρ.set n (some x)).set m (some y)) S := (rfl)
def sPar (G : Gm) (rc : Rc) (n m : Nat) (b : Ex) (ρ : Env) : Vl → Sto → RS := fun v S => (ev G rc b ρ S).thn (sPar2 n m ρ v)
@[simp] theorem sPar_a : sPar G rc n m b ρ x S = (ev G rc b ρ S).thn (sPar2 n m ρ x) := (rfl)
@[simp] theorem ex_par : ex G rc (.par n m a b) ρ S = (ev G rc a ρ S).thn (sPar G rc n m b ρ) := (rfl)
def sSet (n : Nat) (ρ : Env) : Vl → Sto → RS := fun z S => .nx (ρ.set n (some z)) S
@[simp] theorem sSet_a : sSet n ρ x S = .nx (ρ.set n (some x)) S := (rfl)
def sAug2 (n : Nat) (o : Op) (ρ : Env) (x : Vl) : Vl → Sto → RS := fun y S => (augop o x y S).thn (sSet n ρ)
@[simp] theorem sAug2_a : sAug2 n o ρ x y S = (augop o x y S).thn (sSet n ρ) := (rfl)
def sAug (G : Gm) (rc : Rc) (n : Nat) (o : Op) (e : Ex) (ρ : Env) : Vl → Sto → RS := fun x S => (ev G rc e ρ S).thn (sAug2 n o ρ x)
@[simp] theorem sAug_a : sAug G rc n o e ρ x S = (ev G rc e ρ S).thn (sAug2 n o ρ x) := (rfl)
@[simp] theorem ex_aug : ex G rc (.aug n o e) ρ S = (pick ((ρ[n]?).bind id) S).thn (sAug G rc n o e ρ) := (rfl)
def sNx (ρ : Env) : Vl → Sto → RS := fun _ S => .nx ρ S
@[simp] theorem sNx_a : sNx ρ x S = .nx ρ S := (rfl)
@[simp] theorem ex_expr : ex G rc (.expr e) ρ S = (ev G rc e ρ S).thn (sNx ρ) := (rfl)
@[simp] theorem ex_ret : ex G rc (.ret e) ρ S = (ev G rc e ρ S).thn sRt := (rfl)
def sIf2 (G : Gm) (rc : Rc) (ss tt : List St) (ρ : Env) : Bool → Sto → RS := fun k S => if k then exs G rc ss ρ S else exs G rc tt ρ S
@[simp] theorem sIf2_t : sIf2 G rc ss tt ρ true S = exs G rc ss ρ S := (rfl)
@[simp] theorem sIf2_f : sIf2 G rc ss tt ρ false S = exs G rc tt ρ S := (rfl)
def sIf (G : Gm) (rc : Rc) (ss tt : List St) (ρ : Env) : Vl → Sto → RS := fun x S => (tru x S).thn (sIf2 G rc ss tt ρ)
@[simp] theorem sIf_a : sIf G rc ss tt ρ x S = (tru x S).thn (sIf2 G rc ss tt ρ) := (rfl)
@[simp] theorem ex_ifs : ex G rc (.ifs c ss tt) ρ S = (ev G rc c ρ S).thn (sIf G rc ss tt ρ) := (rfl)
/-- a while's test -/
def tst (G : Gm) (rc : Rc) (c : Ex) : Env → Sto → Res Bool := fun ρ S => (ev G rc c ρ S).bind tru
@[simp] theorem tst_a : tst G rc c ρ S = (ev G rc c ρ S).bind tru := (rfl)
@[simp] theorem ex_whl : ex G rc (.whl c ss) ρ S = whl (tst G rc c) (exs G rc ss) G.fuel ρ S := (rfl)
def unl (lk : Option (Nat × Cell)) : Sto → Sto := fun S => unlock S lk
@[simp] theorem unl_a {lk : Option (Nat × Cell)} : unl lk S = unlock S lk := (rfl)
def sFor (G : Gm) (rc : Rc) (t : Tg) (ss : List St) (ρ : Env) : List Vl × Option (Nat × Cell) → Sto → RS := fun q S => (fors (exs G rc ss) t q.1 ρ (lock S q.2)).mapS (unl q.2)
@[simp] theorem sFor_a {lk : Option (Nat × Cell)} : sFor G rc t ss ρ (vs, lk) S = (fors (exs G rc ss) t vs ρ (lock S lk)).mapS (unl lk) := (rfl)
@[simp] theorem ex_fors {k : Ik} : ex G rc (.fors t k es ss) ρ S = ((evs G rc es ρ S).bind (kWk k)).thn (sFor G rc t ss ρ) := (rfl)
@[simp] theorem ex_brk : ex G rc .brk ρ S = .bk ρ S := (rfl)
@[simp] theorem ex_cnt : ex G rc .cnt ρ S = .ct ρ S := (rfl)
@[simp] theorem ex_pass : ex G rc .pass ρ S = .nx ρ S := (rfl)
def sFrz (r : Option (Env × Sto)) : RS := match r with
    | some (ρ, S) => .nx ρ S
    | none => .bad
@[simp] theorem sFrz_s : sFrz (some (ρ, S)) = .nx ρ S := (rfl)
@[simp] theorem ex_frz {is : List Nat} : ex G rc (.frz is) ρ S = sFrz (frz is ρ S) := (rfl)
@[simp] theorem pures_nil : pures [] = some [] := (rfl)
@[simp] theorem pures_d : pures (.d d :: vs) = (pures vs).map (d :: ·) := by
  show (match Vl.d d, pures vs with
    | .d x, some xs => some (x :: xs)
    | _, _ => none) = _
  cases pures vs <;> rfl
@[simp] theorem lock_none : lock S none = S := (rfl)
@[simp] theorem unlock_none : unlock S none = S := (rfl)
@[simp] theorem wipe_nil : wipe ρ [] = ρ := (rfl)
@[simp] theorem wipe_cons {ns : List Nat} : wipe ρ (n :: ns) = (wipe ρ ns).set n none := (rfl)
end
/-- what is left of a run behind a def's body -/
def outA (S : Sto) (r : RS) : Res Vl := match r with
  | .nx _ _ => .ok (.d .non) S
  | .rt v S' => goOut S v S'
  | .exc e _ => .exc e S
  | _ => .bad
def outI (r : RS) : Res Vl := match r with
  | .nx _ S' => .ok (.d .non) S'
  | .exc e S' => .exc e S'
  | _ => .bad
@[simp] theorem outI_nx {ρ : Env} {S : Sto} : outI (.nx ρ S) = .ok (.d .non) S := (rfl)
def outK (keep : Bool) (S : Sto) (r : RS) : Res Vl := match r with
  | .nx _ S' => leave keep S (.d .non) S'
  | .rt v S' => leave keep S v S'
  | .exc e S' => .exc e S'
  | _ => .bad
section
variable {S S' : Sto} {v : Vl} {ρ : Env} {e : Exn} {k : Bool} {d : D} {n : Nat}
@[simp] theorem outA_nx : outA S (.nx ρ S') = .ok (.d .non) S := (rfl)
@[simp] theorem outA_rt : outA S (.rt v S') = goOut S v S' := (rfl)
@[simp] theorem outK_nx : outK k S (.nx ρ S') = leave k S (.d .non) S' := (rfl)
@[simp] theorem outK_rt : outK k S (.rt v S') = leave k S v S' := (rfl)
@[simp] theorem goOut_d : goOut S (.d d) S' = .ok (.d d) S := (rfl)
@[simp] theorem leave_k : leave true S v S' = .ok v S' := (rfl)
theorem run_alone {G : Gm} {k f : Nat} {as : List Vl} {S : Sto} {d : Df} (h : G.defs f = some d) (ha : d.alone = true) (hl : as.length = d.params) (hda : as.all dataO = true) (hi : d.init = false := by rfl) : run G (k + 1) f as S = outA S (exs G (run G k) d.body (as.map some ++ List.replicate (d.slots - d.params) none) []) := by
  unfold run
  rw [h]
  dsimp only
  rw [if_pos (beq_iff_eq.mpr hl), if_neg (by rw [hi]; exact Bool.false_ne_true), if_pos ha, if_pos hda]
  rfl
theorem run_keep {G : Gm} {k f : Nat} {as : List Vl} {S : Sto} {d : Df} (h : G.defs f = some d) (ha : d.alone = false) (hl : as.length = d.params) (hi : d.init = false := by rfl) : run G (k + 1) f as S = outK d.keep S (exs G (run G k) d.body (as.map some ++ List.replicate (d.slots - d.params) none) S) := by
  unfold run
  rw [h]
  dsimp only
  rw [if_pos (beq_iff_eq.mpr hl), if_neg (by rw [hi]; exact Bool.false_ne_true), if_neg (by rw [ha]; exact Bool.false_ne_true)]
  rfl
theorem run_init {G : Gm} {k f : Nat} {as : List Vl} {S : Sto} {d : Df} (h : G.defs f = some d) (hi : d.init = true) (hl : as.length = d.params) : run G (k + 2) f as S = outI (exs G (run G k) d.body (as.map some ++ List.replicate (d.slots - d.params) none) S) := by
  unfold run
  rw [h]
  dsimp only
  rw [if_pos (beq_iff_eq.mpr hl), if_pos hi]
  rfl
end
section
variable {i j : Int} {s t : Tx} {b c : Bool} {x y : D} {xs ys : List D} {S : Sto} {n : Nat} {v w : Vl}
@[simp] theorem add_int : binop .add (.d (.int i)) (.d (.int j)) S = .ok (.d (.int (i + j))) S := (rfl)
@[simp] theorem add_str : binop .add (.d (.str s)) (.d (.str t)) S = if decide (s.length + t.length ≤ most) then .ok (.d (.str (s ++ t))) S else .bad := (rfl)
@[simp] theorem add_tup : binop .add (.d (.tup xs)) (.d (.tup ys)) S = if !xs.isEmpty && decide (xs.length + ys.length ≤ most) then .ok (.d (.tup (xs ++ ys))) S else .bad := (rfl)
@[simp] theorem pures_map (ds : List D) : pures (ds.map .d) = some ds := by
  induction ds with
  | nil => rfl
  | cons a ns ih => simp [pures, ih]
@[simp] theorem pures_map' (ds : List D) : pures (ds.map fun x => .d x) = some ds := pures_map ds
@[simp] theorem pures_mapf {τ : Type} (f : τ → D) (ds : List τ) : pures (ds.map fun x => .d (f x)) = some (ds.map f) := by
  induction ds with
  | nil => rfl
  | cons a ns ih => simp [pures, ih]
@[simp] theorem add_lst : binop .add (.d (.lst xs)) (.d (.lst ys)) S = if decide (xs.length + ys.length ≤ most) then .ok (.d (.lst (xs ++ ys))) S else .bad := by
  simp [binop, opAdd, catL, listOf]
@[simp] theorem sub_int : binop .sub (.d (.int i)) (.d (.int j)) S = .ok (.d (.int (i - j))) S := (rfl)
@[simp] theorem mul_int : binop .mul (.d (.int i)) (.d (.int j)) S = if cMul i j then .ok (.d (.int (i * j))) S else .bad := (rfl)
@[simp] theorem mul_lst : binop .mul (.d (.lst xs)) (.d (.int j)) S = if decide (-(2 ^ 63) ≤ j) && decide (j < 2 ^ 63) && decide (xs.length * j.toNat ≤ most) then .ok (.d (.lst (List.replicate j.toNat xs).flatten)) S else .bad := by
  simp [binop, opMul, repL, listOf]
@[simp] theorem fdiv_int : binop .fdiv (.d (.int i)) (.d (.int j)) S = if decide (0 < j) && decide (j < 1073741824) then .ok (.d (.int (i / j))) S else .bad := (rfl)
@[simp] theorem mod_int : binop .mod (.d (.int i)) (.d (.int j)) S = if decide (0 < j) then .ok (.d (.int (i % j))) S else .bad := (rfl)
@[simp] theorem pow_int : binop .pow (.d (.int i)) (.d (.int j)) S = if cPow i j then .ok (.d (.int (i ^ j.toNat))) S else .bad := (rfl)
@[simp] theorem shl_int : binop .shl (.d (.int i)) (.d (.int j)) S = if cPow i j then .ok (.d (.int (i * 2 ^ j.toNat))) S else .bad := (rfl)
@[simp] theorem augadd_int : augop .add (.d (.int i)) (.d (.int j)) S = .ok (.d (.int (i + j))) S := (rfl)
@[simp] theorem augadd_str : augop .add (.d (.str s)) (.d (.str t)) S = if decide (s.length + t.length ≤ most) then .ok (.d (.str (s ++ t))) S else .bad := (rfl)
@[simp] theorem augsub_int : augop .sub (.d (.int i)) (.d (.int j)) S = .ok (.d (.int (i - j))) S := (rfl)
@[simp] theorem eq_a : cmpop .eq v w S = cEqv false v w S := (rfl)
@[simp] theorem ne_a : cmpop .ne v w S = cEqv true v w S := (rfl)
@[simp] theorem eqv_dd (k : Bool) : cEqv k (.d x) (.d y) S = if eqOk x y then .ok (.d (.bl (if k then !eqv x y else eqv x y))) S else .bad := (rfl)
@[simp] theorem lt_int : cmpop .lt (.d (.int i)) (.d (.int j)) S = .ok (.d (.bl (decide (i < j)))) S := (rfl)
@[simp] theorem le_int : cmpop .le (.d (.int i)) (.d (.int j)) S = .ok (.d (.bl (decide (i ≤ j)))) S := (rfl)
@[simp] theorem gt_int : cmpop .gt (.d (.int i)) (.d (.int j)) S = .ok (.d (.bl (decide (j < i)))) S := (rfl)
@[simp] theorem ge_int : cmpop .ge (.d (.int i)) (.d (.int j)) S = .ok (.d (.bl (decide (j ≤ i)))) S := (rfl)
@[simp] theorem lt_str : cmpop .lt (.d (.str s)) (.d (.str t)) S = .ok (.d (.bl (ltTx s t))) S := (rfl)
@[simp] theorem lt_tup : cmpop .lt (.d (.tup xs)) (.d (.tup ys)) S = if ordOk (.tup xs) (.tup ys) then .ok (.d (.bl (ltDt (.tup xs) (.tup ys)))) S else .bad := (rfl)
@[simp] theorem le_tup : cmpop .le (.d (.tup xs)) (.d (.tup ys)) S = if ordOk (.tup xs) (.tup ys) then .ok (.d (.bl (!ltDt (.tup ys) (.tup xs)))) S else .bad := (rfl)
@[simp] theorem gt_tup : cmpop .gt (.d (.tup xs)) (.d (.tup ys)) S = if ordOk (.tup xs) (.tup ys) then .ok (.d (.bl (ltDt (.tup ys) (.tup xs)))) S else .bad := (rfl)
@[simp] theorem ge_tup : cmpop .ge (.d (.tup xs)) (.d (.tup ys)) S = if ordOk (.tup xs) (.tup ys) then .ok (.d (.bl (!ltDt (.tup xs) (.tup ys)))) S else .bad := (rfl)
@[simp] theorem lt_lst : cmpop .lt (.d (.lst xs)) (.d (.lst ys)) S = if ordOk (.lst xs) (.lst ys) then .ok (.d (.bl (ltDt (.lst xs) (.lst ys)))) S else .bad := (rfl)
@[simp] theorem le_lst : cmpop .le (.d (.lst xs)) (.d (.lst ys)) S = if ordOk (.lst xs) (.lst ys) then .ok (.d (.bl (!ltDt (.lst ys) (.lst xs)))) S else .bad := (rfl)
@[simp] theorem gt_lst : cmpop .gt (.d (.lst xs)) (.d (.lst ys)) S = if ordOk (.lst xs) (.lst ys) then .ok (.d (.bl (ltDt (.lst ys) (.lst xs)))) S else .bad := (rfl)
@[simp] theorem ge_lst : cmpop .ge (.d (.lst xs)) (.d (.lst ys)) S = if ordOk (.lst xs) (.lst ys) then .ok (.d (.bl (!ltDt (.lst xs) (.lst ys)))) S else .bad := (rfl)
@[simp] theorem le_str : cmpop .le (.d (.str s)) (.d (.str t)) S = .ok (.d (.bl (!ltTx t s))) S := (rfl)
@[simp] theorem gt_str : cmpop .gt (.d (.str s)) (.d (.str t)) S = .ok (.d (.bl (ltTx t s))) S := (rfl)
@[simp] theorem ge_str : cmpop .ge (.d (.str s)) (.d (.str t)) S = .ok (.d (.bl (!ltTx s t))) S := (rfl)
@[simp] theorem is_non : cmpop .is v (.d .non) S = .ok (.d (.bl (isNone v))) S := (rfl)
@[simp] theorem isn_non : cmpop .isn v (.d .non) S = .ok (.d (.bl (!isNone v))) S := (rfl)
@[simp] theorem is_bl : cmpop .is (.d (.bl b)) (.d (.bl c)) S = .ok (.d (.bl (decide (b = c)))) S := (rfl)
theorem inAny_lst : inAny (.d x) (.d (.lst xs)) S = contains (.d x) (.d (.lst xs)) S := (rfl)
theorem inAny_tup : inAny (.d x) (.d (.tup xs)) S = contains (.d x) (.d (.tup xs)) S := (rfl)
theorem cMem_dct {k t : Bool} {kvs : List (D × Vl)} (h : S[n]? = some (.dct t kvs)) (hk : keyOk t x = true) : cMem k (.d x) (.p n) S = .ok (.d (.bl (if k then !(kvFind kvs x).isSome else (kvFind kvs x).isSome))) S := by
  simp [cMem, inAny, inDct, h, hk]
theorem cMem_dd {k t : Bool} {us : List D} (hk : (keyOk t x && xs.length == us.length) = true) : cMem k (.d x) (.d (.dct t xs us)) S = .ok (.d (.bl (if k then !(kvFind (xs.zip us) x).isSome else (kvFind (xs.zip us) x).isSome))) S := by
  unfold cMem inAny inDct
  simp only [hk, if_true]
@[simp] theorem cMem_wd {k : Bool} {ks : List Tx} : cMem k (.d (.str s)) (.d (.wd ks xs)) S = .ok (.d (.bl (if k then !(wdFind ks xs s).isSome else (wdFind ks xs s).isSome))) S := (rfl)
@[simp] theorem index_wd {ks : List Tx} : index (.d (.wd ks xs)) (.d (.str s)) S = (match wdFind ks xs s with
  | some y => .ok (.d y) S
  | none => .bad) := (rfl)
theorem memL_flat {k : Bool} (hx : isFlat x = true) (hs : xs.all isFlat = true) : cMem k (.d x) (.d (.lst xs)) S = .ok (.d (.bl (if k then !(xs.any fun e => eqv e x) else xs.any fun e => eqv e x))) S := by
  simp [cMem, inAny, inDct, contains, seqOf, memFlat, hx, hs]
theorem memT_flat {k : Bool} (hx : isFlat x = true) (hs : xs.all isFlat = true) : cMem k (.d x) (.d (.tup xs)) S = .ok (.d (.bl (if k then !(xs.any fun e => eqv e x) else xs.any fun e => eqv e x))) S := by
  simp [cMem, inAny, inDct, contains, seqOf, memFlat, hx, hs]
theorem memL_deep {k : Bool} (hx : isData 64 x = true) (hs : isData 64 (.lst xs) = true) : cMem k (.d x) (.d (.lst xs)) S = .ok (.d (.bl (if k then !(xs.any fun e => eqv e x) else xs.any fun e => eqv e x))) S := by
  by_cases hf : (isFlat x && xs.all isFlat) = true
  · rw [Bool.and_eq_true] at hf
    exact memL_flat hf.1 hf.2
  · simp [cMem, inAny, inDct, contains, seqOf, listOf, memFlat, hf, hx, hs]
@[simp] theorem mem_chr {k : Bool} {c : Nat} : cMem k (.d (.str [c])) (.d (.str t)) S = .ok (.d (.bl (if k then !decide (c ∈ t) else decide (c ∈ t)))) S := (rfl)
@[simp] theorem mem_a : cmpop .mem v w S = cMem false v w S := (rfl)
@[simp] theorem nmem_a : cmpop .nmem v w S = cMem true v w S := (rfl)
@[simp] theorem isNone_non : isNone (.d .non) = true := (rfl)
@[simp] theorem isNone_bl : isNone (.d (.bl b)) = false := (rfl)
@[simp] theorem isNone_int : isNone (.d (.int i)) = false := (rfl)
@[simp] theorem isNone_str : isNone (.d (.str s)) = false := (rfl)
@[simp] theorem isNone_tup : isNone (.d (.tup xs)) = false := (rfl)
@[simp] theorem isNone_lst : isNone (.d (.lst xs)) = false := (rfl)
@[simp] theorem isNone_p : isNone (.p n) = false := (rfl)
@[simp] theorem tru_non : tru (.d .non) S = .ok false S := (rfl)
@[simp] theorem tru_bl : tru (.d (.bl b)) S = .ok b S := (rfl)
@[simp] theorem tru_int : tru (.d (.int i)) S = .ok (i != 0) S := (rfl)
@[simp] theorem tru_lst : tru (.d (.lst xs)) S = .ok (!xs.isEmpty) S := (rfl)
@[simp] theorem tru_tup : tru (.d (.tup xs)) S = .ok (!xs.isEmpty) S := (rfl)
@[simp] theorem truthy_str : truthy (.d (.str s)) S = if decide (s.length ≤ most) then some ((s.length : Int) != 0) else none := (rfl)
@[simp] theorem tru_str : tru (.d (.str s)) S = match truthy (.d (.str s)) S with
  | some b => .ok b S
  | none => .bad := (rfl)
@[simp] theorem bf1_len {k : Bool} : builtin .len k [v] S = bLen v S := (rfl)
@[simp] theorem bf1_abs {k : Bool} : builtin .abs k [.d (.int i)] S = .ok (.d (.int (if i < 0 then -i else i))) S := (rfl)
@[simp] theorem bf1_int {k : Bool} : builtin .int k [.d (.int i)] S = .ok (.d (.int i)) S := (rfl)
@[simp] theorem bf1_intb {k : Bool} : builtin .int k [.d (.bl b)] S = .ok (.d (.int (if b then 1 else 0))) S := (rfl)
@[simp] theorem bf1_list {k : Bool} : builtin .list k [v] S = bList k v S := (rfl)
@[simp] theorem bf1_tuple {k : Bool} : builtin .tuple k [v] S = bTuple v S := (rfl)
@[simp] theorem bf1_sum {k : Bool} : builtin .sum k [v] S = bOf intL (fun is => .int is.sum) v S := (rfl)
@[simp] theorem bf1_any {k : Bool} : builtin .any k [v] S = bOf boolL (fun bs => .bl (bs.any id)) v S := (rfl)
@[simp] theorem bf1_all {k : Bool} : builtin .all k [v] S = bOf boolL (fun bs => .bl (bs.all id)) v S := (rfl)
@[simp] theorem bf1_isi {k : Bool} {ts : List Nat} : builtin (.isinst ts) k [v] S = bIsi ts v S := (rfl)
@[simp] theorem bf1_sorted {k : Bool} : builtin .sorted k [v] S = bSorted k v S := (rfl)
@[simp] theorem bSorted_lst {k : Bool} : bSorted k (.d (.lst xs)) S = if sortOk xs then newList k ((xs.mergeSort leDt).map .d) S else .bad := by
  simp [bSorted, listOf]
@[simp] theorem bm1_index : method .index (.d (.lst xs)) [w] S = mIndex (.d (.lst xs)) w S := (rfl)
@[simp] theorem bm1_indexS : method .index (.d (.str s)) [w] S = sIndex (.d (.str s)) w S := (rfl)
@[simp] theorem bmTy_indexL : bmTy .index (.d (.lst xs)) S = true := (rfl)
@[simp] theorem bmTy_indexS : bmTy .index (.d (.str s)) S = true := (rfl)
theorem mIndex_lst : mIndex (.d (.lst xs)) (.d y) S = if isData 64 (.lst xs) && isData 64 y then (match xs.findIdx? (fun e => eqv e y) with
      | some j => .ok (.d (.int (j : Int))) S
      | none => .bad) else .bad := by
  show (match pures (xs.map .d) with
    | some ds => if isData 64 (.lst ds) && isData 64 y then (match ds.findIdx? (fun e => eqv e y) with
      | some j => Res.ok (Vl.d (.int (j : Int))) S
      | none => .bad) else .bad
    | none => .bad) = _
  rw [pures_map]
@[simp] theorem bf2_min {k : Bool} : builtin .min k [.d (.int i), .d (.int j)] S = .ok (.d (.int (if j < i then j else i))) S := (rfl)
@[simp] theorem bf2_max {k : Bool} : builtin .max k [.d (.int i), .d (.int j)] S = .ok (.d (.int (if j > i then j else i))) S := (rfl)
@[simp] theorem bOf_lst {τ : Type} {f : List D → Option τ} {g : τ → D} : bOf f g (.d (.lst xs)) S = match f xs with
  | some t => .ok (.d (g t)) S
  | none => .bad := by
  show (match pures (xs.map .d) with
    | some ds => match f ds with
      | some t => Res.ok (Vl.d (g t)) S
      | none => .bad
    | none => .bad) = _
  rw [pures_map]
@[simp] theorem seqOf_lst : seqOf (.d (.lst xs)) S = some (xs.map .d) := (rfl)
@[simp] theorem seqOf_tup : seqOf (.d (.tup xs)) S = some (xs.map .d) := (rfl)
@[simp] theorem seqOf_str : seqOf (.d (.str s)) S = none := (rfl)
@[simp] theorem listOf_lst : listOf (.d (.lst xs)) S = some (xs.map .d) := (rfl)
@[simp] theorem listOf_str : listOf (.d (.str s)) S = none := (rfl)
@[simp] theorem listOf_tup : listOf (.d (.tup xs)) S = none := (rfl)
@[simp] theorem bLen_lst : bLen (.d (.lst xs)) S = .ok (.d (.int xs.length)) S := by simp [bLen]
@[simp] theorem bLen_tup : bLen (.d (.tup xs)) S = .ok (.d (.int xs.length)) S := by simp [bLen]
theorem bLen_keys {ks : List D} (h : seqOf v S = none) (h2 : ∀ s, v ≠ .d (.str s)) (hk : keysOf v S = some ks) : bLen v S = .ok (.d (.int ks.length)) S := by
  unfold bLen
  rw [h]
  dsimp only
  split
  · rename_i z; exact absurd rfl (h2 z)
  · rw [hk]
@[simp] theorem bLen_str : bLen (.d (.str s)) S = if decide (s.length ≤ most) then .ok (.d (.int s.length)) S else .bad := (rfl)
@[simp] theorem bIsi_non {ts : List Nat} : bIsi ts (.d .non) S = .ok (.d (.bl false)) S := by simp [bIsi, isTypes, typeOf]
@[simp] theorem bIsi_bl {ts : List Nat} : bIsi ts (.d (.bl b)) S = .ok (.d (.bl (ts.any fun t => [0, 4].contains t))) S := (rfl)
@[simp] theorem bIsi_int {ts : List Nat} : bIsi ts (.d (.int i)) S = .ok (.d (.bl (ts.any fun t => [0].contains t))) S := (rfl)
@[simp] theorem bIsi_str {ts : List Nat} : bIsi ts (.d (.str s)) S = .ok (.d (.bl (ts.any fun t => [1].contains t))) S := (rfl)
@[simp] theorem bIsi_lst {ts : List Nat} : bIsi ts (.d (.lst xs)) S = .ok (.d (.bl (ts.any fun t => [2].contains t))) S := (rfl)
@[simp] theorem bIsi_tup {ts : List Nat} : bIsi ts (.d (.tup xs)) S = .ok (.d (.bl (ts.any fun t => [3].contains t))) S := (rfl)
@[simp] theorem bm1_append : method .append v [w] S = mAppend v w S := (rfl)
@[simp] theorem bm1_extend : method .extend v [w] S = mExtend v w S := (rfl)
@[simp] theorem bm0_pop : method .pop v [] S = mPop v S := (rfl)
@[simp] theorem bm1_join : method .join v [w] S = mJoin v w S := (rfl)
@[simp] theorem bm1_count : method .count (.d (.str s)) [.d (.str t)] S = .ok (.d (.int (Txt.count (mk s) (mk t)))) S := (rfl)
@[simp] theorem bm1_rfind : method .rfind (.d (.str s)) [.d (.str t)] S = .ok (.d (.int (Txt.rfind (mk s) (mk t)))) S := (rfl)
@[simp] theorem bm1_startswith : method .startswith (.d (.str s)) [.d (.str t)] S = .ok (.d (.bl (Txt.startswith (mk s) (mk t)))) S := (rfl)
@[simp] theorem bmTy_append : bmTy .append v S = (listOf v S).isSome := (rfl)
@[simp] theorem bmTy_extend : bmTy .extend v S = (listOf v S).isSome := (rfl)
@[simp] theorem bmTy_pop : bmTy .pop v S = (listOf v S).isSome := (rfl)
@[simp] theorem bmTy_join : bmTy .join v S = isStr v := (rfl)
@[simp] theorem bmTy_count : bmTy .count v S = isStr v := (rfl)
@[simp] theorem bmTy_rfind : bmTy .rfind v S = isStr v := (rfl)
@[simp] theorem bmTy_startswith : bmTy .startswith v S = isStr v := (rfl)
@[simp] theorem isStr_d : isStr (.d (.str s)) = true := (rfl)
end
section
variable {i j : Int} {s t : Tx} {b c : Bool} {x y : D} {xs ys : List D} {S : Sto} {n : Nat} {v w : Vl}
theorem wk_rng (h1 : (-4611686018427387904 : Int) ≤ i) (h2 : i < 4611686018427387904) : walkF .range [.d (.int i)] S = .ok ((List.range i.toNat).map fun (j : Nat) => .d (.int (j : Int)), none) S := by
  have e : (decide (-(2 ^ 62) ≤ i) && decide (i < 2 ^ 62)) = true := by
    rw [Bool.and_eq_true]
    exact ⟨decide_eq_true (by omega), decide_eq_true (by omega)⟩
  show (match (if (decide (-(2 ^ 62) ≤ i) && decide (i < 2 ^ 62)) = true then some ((List.range i.toNat).map fun (j : Nat) => Vl.d (.int (j : Int)), (none : Option (Nat × Cell))) else none) with
    | some q => Res.ok q S
    | none => .bad) = _
  rw [if_pos e]
theorem wk_rngN (h2 : n < 4611686018427387904) : walkF .range [.d (.int (n : Int))] S = .ok ((List.range n).map fun (j : Nat) => .d (.int (j : Int)), none) S := by
  rw [wk_rng (by omega) (by omega), Int.toNat_natCast]
theorem wk_rng2 (h1 : (-4611686018427387904 : Int) ≤ i) (h2 : i < 4611686018427387904) (h3 : (-4611686018427387904 : Int) ≤ j) (h4 : j < 4611686018427387904) : walkF .range [.d (.int i), .d (.int j)] S = .ok (rngs i j, none) S := by
  have e : (inRng i && inRng j) = true := by
    unfold inRng
    rw [Bool.and_eq_true, Bool.and_eq_true, Bool.and_eq_true]
    exact ⟨⟨decide_eq_true (by omega), decide_eq_true (by omega)⟩, decide_eq_true (by omega), decide_eq_true (by omega)⟩
  show (match ((if (inRng i && inRng j) = true then some (rngs i j) else none).map fun xs => (xs, (none : Option (Nat × Cell)))) with
    | some q => Res.ok q S
    | none => .bad) = _
  rw [if_pos e]
  rfl
@[simp] theorem wk_lst : walkF .seq [.d (.lst xs)] S = .ok (xs.map .d, none) S := (rfl)
@[simp] theorem wk_tup : walkF .seq [.d (.tup xs)] S = .ok (xs.map .d, none) S := (rfl)
@[simp] theorem wk_str : walkF .seq [.d (.str s)] S = .ok (s.map fun c => .d (.str [c]), none) S := (rfl)
@[simp] theorem wk_scr {ns : List Int} : walkF .seq [.d (.scr ns)] S = .ok (ns.map fun i => .d (.int i), none) S := (rfl)
theorem wk_cell {vs : List Vl} (h : S[n]? = some (.lst vs)) : walkF .seq [.p n] S = .ok (vs, some (n, .lst vs)) S := by
  simp [walkF, walked, seqOf, lockOf, h]
@[simp] theorem wk_enum : walkF .enum [.d (.lst xs)] S = .ok (((List.range xs.length).zip xs).map fun p => .d (.tup [.int (p.1 : Int), p.2]), none) S := by
  simp [walkF, walked, lockOf]
@[simp] theorem wk_rev : walkF .rev [.d (.lst xs)] S = .ok ((xs.map .d).reverse, none) S := (rfl)
end
section
variable {i j : Int} {s t : Tx} {b c : Bool} {x y : D} {xs ys : List D} {S : Sto} {n m : Nat} {v w : Vl} {vs : List Vl} {ρ : Env} {ts : List Tg} {t : Tg}
@[simp] theorem most_x : most = 16777216 := (rfl)
@[simp] theorem newList_f : newList false vs S = if decide (vs.length ≤ most) then (match pures vs with
  | some ds => .ok (.d (.lst ds)) S
  | none => .bad) else .bad := (rfl)
@[simp] theorem newList_t : newList true vs S = if decide (vs.length ≤ most) then .ok (.p S.length) (S ++ [.lst vs]) else .bad := (rfl)
@[simp] theorem bindT_var : bindT (.var n) v ρ = some (ρ.set n (some v)) := by simp only [bindT]
@[simp] theorem bindT_tup : bindT (.tup ts) (.d (.tup xs)) ρ = bindTs ts xs ρ := by simp only [bindT]
@[simp] theorem bindTs_nil : bindTs [] [] ρ = some ρ := by simp only [bindTs]
def bindNx (ts : List Tg) (xs : List D) : Option Env → Option Env
  | some ρ' => bindTs ts xs ρ'
  | none => none
@[simp] theorem bindNx_s : bindNx ts xs (some ρ) = bindTs ts xs ρ := (rfl)
@[simp] theorem bindTs_cons : bindTs (t :: ts) (x :: xs) ρ = bindNx ts xs (bindT t (.d x) ρ) := by
  simp only [bindTs]
  cases bindT t (.d x) ρ <;> rfl
@[simp] theorem isFlat_non : isFlat .non = true := (rfl)
@[simp] theorem isFlat_bl : isFlat (.bl b) = true := (rfl)
@[simp] theorem isFlat_int : isFlat (.int i) = true := (rfl)
@[simp] theorem isFlat_str : isFlat (.str s) = true := (rfl)
@[simp] theorem isFlat_tup : isFlat (.tup xs) = false := (rfl)
@[simp] theorem isFlat_lst : isFlat (.lst xs) = false := (rfl)
@[simp] theorem eqOk_a : eqOk x y = ((isFlat x && isFlat y) || (isData 64 x && isData 64 y)) := (rfl)
@[simp] theorem isData_non : isData n .non = true := by unfold isData; rfl
@[simp] theorem isData_bl : isData n (.bl b) = true := by unfold isData; rfl
@[simp] theorem isData_int : isData n (.int i) = true := by unfold isData; rfl
@[simp] theorem isData_str : isData n (.str s) = s.all fun c => decide (c < 1114112) := by unfold isData; rfl
theorem isData_tup : isData (n + 1) (.tup xs) = isDatas n xs := by rw [isData]
theorem isData_lst : isData (n + 1) (.lst xs) = isDatas n xs := by rw [isData]
@[simp] theorem isDatas_nil : isDatas n [] = true := by unfold isDatas; rfl
@[simp] theorem isDatas_cons : isDatas n (x :: xs) = (isData n x && isDatas n xs) := by rw [isDatas]
def ixOf (S : Sto) : Option D → Res Vl
  | some y => .ok (.d y) S
  | none => .bad
@[simp] theorem ixOf_s : ixOf S (some x) = .ok (.d x) S := (rfl)
@[simp] theorem index_lst : index (.d (.lst xs)) (.d (.int i)) S = ixOf S (atI xs i) := by
  show (match atI xs i with
    | some y => Res.ok (Vl.d y) S
    | none => .bad) = _
  cases atI xs i <;> rfl
@[simp] theorem index_tup : index (.d (.tup xs)) (.d (.int i)) S = ixOf S (atI xs i) := by
  show (match atI xs i with
    | some y => Res.ok (Vl.d y) S
    | none => .bad) = _
  cases atI xs i <;> rfl
@[simp] theorem index_str : index (.d (.str s)) (.d (.int i)) S = if decide (s.length ≤ most) then ixOf S ((atI s i).map fun c => .str [c]) else .bad := by
  show (if decide (s.length ≤ most) then (match atI s i with
    | some c => Res.ok (Vl.d (.str [c])) S
    | none => .bad) else .bad) = _
  cases atI s i <;> rfl
def fldC (f : Nat) (cs : List Nat) (S : Sto) : Option Cell → Res Vl
  | some (.ins c fs) => if cs.contains c then pick (kwFind fs f) S else .bad
  | _ => .bad
@[simp] theorem fldC_a {f c : Nat} {cs : List Nat} {fs : List (Nat × Vl)} : fldC f cs S (some (.ins c fs)) = if cs.contains c then pick (kwFind fs f) S else .bad := (rfl)
@[simp] theorem field_p {f : Nat} {cs : List Nat} : field (.p n) f cs S = fldC f cs S (S[n]?) := by
  show (match S[n]? with
    | some (.ins c fs) => if cs.contains c then (match kwFind fs f with
      | some v => Res.ok v S
      | none => .bad) else .bad
    | _ => .bad) = _
  cases S[n]? with
  | none => rfl
  | some c =>
    cases c with
    | ins c fs =>
      show (if cs.contains c then (match kwFind fs f with
        | some v => Res.ok v S
        | none => .bad) else .bad) = if cs.contains c then pick (kwFind fs f) S else .bad
      cases kwFind fs f <;> rfl
    | _ => rfl
def clsC : Option Cell → Option Nat
  | some (.ins c _) => some c
  | _ => none
@[simp] theorem clsC_a {c : Nat} {fs : List (Nat × Vl)} : clsC (some (.ins c fs)) = some c := (rfl)
@[simp] theorem clsOf_p : clsOf (.p n) S = clsC (S[n]?) := by
  show (match S[n]? with
    | some (.ins c _) => some c
    | _ => none) = _
  cases S[n]? with
  | none => rfl
  | some c => cases c <;> rfl
def sfC (n : Nat) (v : Vl) (f : Nat) (cs : List Nat) (S : Sto) : Option Cell → Option Sto
  | some (.ins c fs) => if cs.contains c && decide (fs.length < 1000) then some (S.set n (.ins c (kwPut fs f v))) else none
  | _ => none
@[simp] theorem sfC_a {f c : Nat} {cs : List Nat} {fs : List (Nat × Vl)} : sfC n v f cs S (some (.ins c fs)) = if cs.contains c && decide (fs.length < 1000) then some (S.set n (.ins c (kwPut fs f v))) else none := (rfl)
@[simp] theorem setField_p {f : Nat} {cs : List Nat} : setField (.p n) v f cs S = sfC n v f cs S (S[n]?) := by
  show (match S[n]? with
    | some (.ins c fs) => if cs.contains c && decide (fs.length < 1000) then some (S.set n (.ins c (kwPut fs f v))) else none
    | _ => none) = _
  cases S[n]? with
  | none => rfl
  | some c => cases c <;> rfl
@[simp] theorem kwFind_cons {α : Type} {f g : Nat} {u : α} {r : List (Nat × α)} : kwFind ((g, u) :: r) f = if g = f then some u else kwFind r f := by
  unfold kwFind
  rw [List.find?_cons]
  by_cases e : g = f
  · simp [e]
  · have e2 : (g == f) = false := by simpa using e
    simp [e, e2]
@[simp] theorem kwPut_nil {α : Type} {f : Nat} {u : α} : kwPut [] f u = [(f, u)] := (rfl)
@[simp] theorem kwPut_cons {α : Type} {f g : Nat} {u w : α} {r : List (Nat × α)} : kwPut ((g, w) :: r) f u = if g = f then (g, u) :: r else (g, w) :: kwPut r f u := (rfl)
def siC (n : Nat) (k : D) (v : Vl) (S : Sto) : Option Cell → Option Sto
  | some (.lst xs) => match k with
    | .int i => (ixN xs.length i).map fun j => S.set n (.lst (xs.set j v))
    | _ => none
  | some (.dct t kvs) => if keyOk t k && decide (kvs.length < most) then some (S.set n (.dct t (kvPut kvs k v))) else none
  | _ => none
theorem setItem_p : setItem (.p n) (.d x) v S = siC n x v S (S[n]?) := by
  show (match S[n]? with
    | some (.lst xs) => match x with
      | .int i => (ixN xs.length i).map fun j => S.set n (.lst (xs.set j v))
      | _ => none
    | some (.dct t kvs) => if keyOk t x && decide (kvs.length < most) then some (S.set n (.dct t (kvPut kvs x v))) else none
    | _ => none) = _
  cases S[n]? with
  | none => rfl
  | some c => cases c <;> cases x <;> rfl
theorem setItem_dct {t : Bool} {kvs : List (D × Vl)} (h : S[n]? = some (.dct t kvs)) : setItem (.p n) (.d x) v S = if keyOk t x && decide (kvs.length < most) then some (S.set n (.dct t (kvPut kvs x v))) else none := by
  rw [setItem_p, h]; rfl
def ixCell (S : Sto) : Option Vl → Res Vl
  | some y => .ok y S
  | none => .bad
@[simp] theorem ixCell_s : ixCell S (some v) = .ok v S := (rfl)
@[simp] theorem index_p : index (.p n) (.d x) S = match S[n]? with
    | some (.lst xs) => match x with
      | .int i => ixCell S (atI xs i)
      | _ => .bad
    | some (.dct t kvs) => if keyOk t x then ixCell S (kvFind kvs x) else .bad
    | _ => .bad := by
  show (match S[n]? with
    | some (.lst xs) => match x with
      | .int i => match atI xs i with
        | some y => Res.ok y S
        | none => .bad
      | _ => .bad
    | some (.dct t kvs) => if keyOk t x then (match kvFind kvs x with
      | some y => Res.ok y S
      | none => .bad) else .bad
    | _ => .bad) = _
  cases S[n]? with
  | none => rfl
  | some c =>
    cases c with
    | lst us =>
      cases x with
      | int i =>
        show (match atI us i with
          | some y => Res.ok y S
          | none => .bad) = ixCell S (atI us i)
        cases atI us i <;> rfl
      | _ => rfl
    | dct t kvs =>
      show (if keyOk t x then (match kvFind kvs x with
          | some y => Res.ok y S
          | none => .bad) else .bad) = if keyOk t x then ixCell S (kvFind kvs x) else .bad
      cases kvFind kvs x <;> rfl
    | _ => rfl
@[simp] theorem atI_a {α : Type} {us : List α} : atI us i = (L2.ixN us.length i).bind fun j => us[j]? := (rfl)
@[simp] theorem ixN_a : L2.ixN n i = if 0 ≤ i then (if i < n then some i.toNat else none) else if -(n : Int) ≤ i then some (i + n).toNat else none := (rfl)
end
end Z
end

section
set_option maxHeartbeats 1000000
set_option maxRecDepth 10000
/-! Z20: what the laws' own helpers do. -/
namespace Z
open PySem L2
def drawB : List Z.St := [.ret (.lst true [.bf (.list) false [.var 0], .con (.int 0), .con (.int 0), .con (.int 17)])]
def nextB : List Z.St := [.ifs (.cmp (.gt) (.ix (.var 0) (.con (.int 2))) (.con (.int 0))) [.asg (.var 2) (.op (.mod) (.bf (.int) false [.ix (.var 0) (.con (.int 2))]) (.var 1)), .sub (.var 0) (.con (.int 2)) (.op (.fdiv) (.ix (.var 0) (.con (.int 2))) (.var 1)), .ret (.var 2)] [], .ifs (.cmp (.lt) (.ix (.var 0) (.con (.int 1))) (.bf (.len) false [.ix (.var 0) (.con (.int 0))])) [.asg (.var 3) (.bf (.abs) false [.ix (.ix (.var 0) (.con (.int 0))) (.ix (.var 0) (.con (.int 1)))]), .sub (.var 0) (.con (.int 1)) (.op (.add) (.ix (.var 0) (.con (.int 1))) (.con (.int 1))), .ifs (.cmp (.ge) (.var 3) (.op (.pow) (.con (.int 10)) (.con (.int 18)))) [.sub (.var 0) (.con (.int 2)) (.op (.fdiv) (.var 3) (.var 1)), .ret (.op (.mod) (.bf (.int) false [.var 3]) (.var 1))] [], .sub (.var 0) (.con (.int 3)) (.op (.mod) (.bf (.int) false [.op (.add) (.op (.add) (.op (.mul) (.ix (.var 0) (.con (.int 3))) (.con (.int 48271))) (.var 3)) (.con (.int 11))]) (.con (.int 2147483647)))] [.sub (.var 0) (.con (.int 3)) (.op (.mod) (.bf (.int) false [.op (.add) (.op (.mul) (.ix (.var 0) (.con (.int 3))) (.con (.int 48271))) (.con (.int 12345))]) (.con (.int 2147483647)))], .ret (.op (.mod) (.op (.fdiv) (.bf (.int) false [.op (.mod) (.op (.mul) (.ix (.var 0) (.con (.int 3))) (.con (.int 69621))) (.con (.int 2147483629))]) (.con (.int 7))) (.var 1))]
def sameB (f : Nat) : List Z.St := [.ifs (.bf (.isinst [2, 3]) false [.var 1]) [.ifs (.or (.cmp (.ne) (.bf (.isinst [2]) false [.var 1]) (.bf (.isinst [2]) false [.var 0])) (.cmp (.ne) (.bf (.isinst [3]) false [.var 1]) (.bf (.isinst [3]) false [.var 0]))) [.ret (.con (.bl false))] [], .ifs (.cmp (.ne) (.bf (.len) false [.var 0]) (.bf (.len) false [.var 1])) [.ret (.con (.bl false))] [], .ret (.bf (.all) false [.lc false (.call f [.ix (.var 0) (.var 2), .ix (.var 1) (.var 2)]) (.var 2) [2] (.range) [.bf (.len) false [.var 1]] none])] [], .ifs (.cmp (.is) (.var 1) (.con (.non))) [.ret (.cmp (.is) (.var 0) (.con (.non)))] [], .ifs (.cmp (.ne) (.bf (.isinst [4]) false [.var 1]) (.bf (.isinst [4]) false [.var 0])) [.ret (.con (.bl false))] [], .ifs (.bf (.isinst [1]) false [.var 1]) [.ret (.and (.bf (.isinst [1]) false [.var 0]) (.cmp (.eq) (.var 0) (.var 1)))] [], .ret (.and (.bf (.isinst [0]) false [.var 0]) (.cmp (.eq) (.var 0) (.var 1)))]
def drawD : Df := { slots := 1, params := 1, body := drawB, keep := true }
def nextD : Df := { slots := 4, params := 2, body := nextB, keep := true }
def sameD (f : Nat) : Df := { slots := 3, params := 2, body := sameB f, keep := false, alone := true }
/-- what the cell of a draw holds -/
def DrawC (c : Cell) : Prop := ∃ (xs : List Int) (p r s : Int), c = .lst [.d (.lst (xs.map .int)), .d (.int p), .d (.int r), .d (.int s)] ∧ 0 ≤ p
theorem draw_run {G : Gm} {k f : Nat} (h : G.defs f = some drawD) (ns : List Int) (hl : ns.length ≤ 16777216) (S : Sto) : ∃ c, run G (k + 1) f [.d (.scr ns)] S = .ok (.p S.length) (S ++ [c]) ∧ DrawC c := by
  refine ⟨.lst [.d (.lst (ns.map .int)), .d (.int 0), .d (.int 0), .d (.int 17)], ?_, ns, 0, 0, 17, rfl, by decide⟩
  rw [run_keep h rfl rfl]
  simp [drawD, drawB, bList, seqOf, hl]
theorem next_run {G : Gm} {k f : Nat} (h : G.defs f = some nextD) {m : Int} (h0 : 0 < m) (h1 : m < 1073741824) {S : Sto} {n : Nat} {c : Cell} (hc : S[n]? = some c) (hd : DrawC c) :
    ∃ v c', run G (k + 1) f [.p n, .d (.int m)] S = .ok (.d (.int v)) (S.set n c') ∧ DrawC c' ∧ 0 ≤ v ∧ v < m := by
  obtain ⟨xs, p, r, s, rfl, hp⟩ := hd
  have hn : n < S.length := (List.getElem?_eq_some_iff.mp hc).1
  have hset : ∀ c : Cell, (S.set n c)[n]? = some c := fun c => by rw [List.getElem?_set_self hn]
  rw [run_keep h rfl rfl]
  have fin : ∀ (v : Int) (c' : Cell), DrawC c' → outK nextD.keep S (exs G (run G k) nextD.body ([Vl.p n, .d (.int m)].map some ++ List.replicate (nextD.slots - nextD.params) none) S) = .ok (.d (.int (v % m))) (S.set n c') →
      ∃ v c', outK nextD.keep S (exs G (run G k) nextD.body ([Vl.p n, .d (.int m)].map some ++ List.replicate (nextD.slots - nextD.params) none) S) = .ok (.d (.int v)) (S.set n c') ∧ DrawC c' ∧ 0 ≤ v ∧ v < m :=
    fun v c' d e => ⟨_, c', e, d, Int.emod_nonneg _ (by omega), Int.emod_lt_of_pos _ h0⟩
  by_cases hr : 0 < r
  · refine fin r (.lst [.d (.lst (xs.map .int)), .d (.int p), .d (.int (r / m)), .d (.int s)]) ⟨xs, p, r / m, s, rfl, hp⟩ ?_
    simp [nextD, nextB, hc, atI, hr, h0, h1, setItem]
  · by_cases hq : p < xs.length
    · have hx : p.toNat < xs.length := by omega
      by_cases hb : 1000000000000000000 ≤ (if xs[p.toNat] < 0 then -xs[p.toNat] else xs[p.toNat])
      · refine fin (if xs[p.toNat] < 0 then -xs[p.toNat] else xs[p.toNat]) (.lst [.d (.lst (xs.map .int)), .d (.int (p + 1)), .d (.int ((if xs[p.toNat] < 0 then -xs[p.toNat] else xs[p.toNat]) / m)), .d (.int s)]) ⟨xs, p + 1, _, s, rfl, by omega⟩ ?_
        simp [nextD, nextB, hc, atI, hp, hx, hr, hq, h0, h1, setItem, hset, cPow, hb]
      · refine fin (((s * 48271 + (if xs[p.toNat] < 0 then -xs[p.toNat] else xs[p.toNat]) + 11) % 2147483647) * 69621 % 2147483629 / 7) (.lst [.d (.lst (xs.map .int)), .d (.int (p + 1)), .d (.int r), .d (.int ((s * 48271 + (if xs[p.toNat] < 0 then -xs[p.toNat] else xs[p.toNat]) + 11) % 2147483647))]) ⟨xs, p + 1, r, _, rfl, by omega⟩ ?_
        simp [nextD, nextB, hc, atI, hp, hx, hr, hq, h0, h1, setItem, hset, cMul, cPow, hb]
    · refine fin (((s * 48271 + 12345) % 2147483647) * 69621 % 2147483629 / 7) (.lst [.d (.lst (xs.map .int)), .d (.int p), .d (.int r), .d (.int ((s * 48271 + 12345) % 2147483647))]) ⟨xs, p, r, _, rfl, by omega⟩ ?_
      simp [nextD, nextB, hc, atI, hr, hq, h0, h1, setItem, hset, cMul, cPow]
/-! ### _law_same -/
mutual
theorem beq_refl : ∀ x : D, D.beq x x = true
  | .non => rfl
  | .bl a => by simp [D.beq]
  | .int a => by simp [D.beq]
  | .str a => by simp [D.beq]
  | .fn a => by simp [D.beq]
  | .tup a => by simp [D.beq, beqs_refl a]
  | .lst a => by simp [D.beq, beqs_refl a]
  | .scr a => by simp [D.beq]
  | .dct t a b => by simp [D.beq, beqs_refl a, beqs_refl b]
  | .ins c n a => by simp [D.beq, beqs_refl a]
  | .wd a b => by simp [D.beq, beqs_refl b]
theorem beqs_refl : ∀ x : List D, D.beqs x x = true
  | [] => rfl
  | x :: xs => by simp [D.beqs, beq_refl x, beqs_refl xs]
end
@[simp] theorem eqv_refl (x : D) : eqv x x = true := beq_refl _
mutual
/-- plain data that a law compares: no deeper than n, no list too long -/
def okS : Nat → D → Bool
  | _, .non => true
  | _, .bl _ => true
  | _, .int _ => true
  | _, .str _ => true
  | n, .tup xs => decide (xs.length ≤ 16777216) && (match n with | 0 => false | n + 1 => okSs n xs)
  | n, .lst xs => decide (xs.length ≤ 16777216) && (match n with | 0 => false | n + 1 => okSs n xs)
  | _, _ => false
def okSs : Nat → List D → Bool
  | _, [] => true
  | n, x :: xs => okS n x && okSs n xs
end
theorem okSs_all {n : Nat} : ∀ {xs : List D}, okSs n xs = true → ∀ x ∈ xs, okS n x = true
  | [], _, _, h => nomatch h
  | y :: ys, h, x, hx => by
    simp only [okSs, Bool.and_eq_true] at h
    rcases List.mem_cons.mp hx with rfl | hx
    · exact h.1
    · exact okSs_all h.2 x hx
theorem okSs_of {n : Nat} : ∀ {xs : List D}, (∀ x ∈ xs, okS n x = true) → okSs n xs = true
  | [], _ => rfl
  | y :: ys, h => by
    simp only [okSs, Bool.and_eq_true]
    exact ⟨h y (List.mem_cons_self ..), okSs_of fun x hx => h x (List.mem_cons_of_mem _ hx)⟩
/-- a comprehension whose turns leave the cells alone -/
theorem turns_map {f : Env → Sto → Res (Option Vl)} {t : Tg} {ρ : Env} {S : Sto} (g : Vl → Vl) : ∀ {xs acc : List Vl}, (∀ v ∈ xs, ∃ ρ', bindT t v ρ = some ρ' ∧ f ρ' S = .ok (some (g v)) S) → acc.length + xs.length ≤ 16777216 → turns f t ρ xs acc S = .ok (acc ++ xs.map g) S
  | [], acc, _, _ => by simp [turns]
  | v :: xs, acc, h, hl => by
    obtain ⟨ρ', h1, h2⟩ := h v (List.mem_cons_self ..)
    have hl' : acc.length + 1 + xs.length ≤ 16777216 := by simp only [List.length_cons] at hl; omega
    have : acc.length < 16777216 := by omega
    simp only [turns, h1, h2, most, this, decide_true, if_true]
    rw [turns_map g (acc := acc ++ [g v]) (fun w hw => h w (List.mem_cons_of_mem _ hw)) (by simp; omega)]
    simp
/-- over a range -/
theorem turns_rng {f : Env → Sto → Res (Option Vl)} {i : Nat} {ρ : Env} {S : Sto} {n : Nat} (g : Nat → Vl) (hn : n ≤ 16777216) (h : ∀ j, j < n → f (ρ.set i (some (.d (.int (j : Int))))) S = .ok (some (g j)) S) :
    turns f (.var i) ρ ((List.range n).map fun (j : Nat) => .d (.int (j : Int))) [] S = .ok ((List.range n).map g) S := by
  rw [turns_map (fun v => match v with | .d (.int j) => g j.toNat | v => v) (fun v hv => ?_) (by simpa using hn)]
  · simp
  · obtain ⟨j, hj, rfl⟩ := List.mem_map.mp hv
    exact ⟨_, rfl, by simpa using h j (List.mem_range.mp hj)⟩
@[simp] theorem intL_map {τ : Type} (f : τ → Int) (xs : List τ) : intL (xs.map fun x => .int (f x)) = some (xs.map f) := by
  induction xs with
  | nil => rfl
  | cons a ns ih => simp [intL, ih]
@[simp] theorem boolL_map {τ : Type} (f : τ → Bool) (xs : List τ) : boolL (xs.map fun x => .bl (f x)) = some (xs.map f) := by
  induction xs with
  | nil => rfl
  | cons a ns ih => simp [boolL, ih]
@[simp] theorem textL_map {τ : Type} (f : τ → Tx) (xs : List τ) : textL (xs.map fun x => .str (f x)) = some (xs.map f) := by
  induction xs with
  | nil => rfl
  | cons a ns ih => simp [textL, ih]
theorem same0 {G : Gm} {f : Nat} (h : G.defs f = some (sameD f)) (d : D) (hd : okS 0 d = true) (k : Nat) (S : Sto) : run G (k + 1) f [.d d, .d d] S = .ok (.d (.bl true)) S := by
    rw [run_alone h rfl rfl rfl]
    cases d <;> simp [okS] at hd <;> simp [sameD, sameB]
theorem same1 {G : Gm} {f : Nat} (h : G.defs f = some (sameD f)) (xs : List D) (hl : xs.length ≤ 16777216) (k : Nat) (S : Sto) (call : ∀ (i : Nat) (hi : i < xs.length), run G (k + 1) f [.d xs[i], .d xs[i]] [] = .ok (.d (.bl true)) []) : run G (k + 2) f [.d (.lst xs), .d (.lst xs)] S = .ok (.d (.bl true)) S := by
  rw [run_alone h rfl rfl rfl]
  simp [sameD, sameB, wk_rngN (n := xs.length) (by omega)]
  rw [turns_rng (n := xs.length) (fun _ => .d (.bl true)) hl fun j hj => by simp [hj, call]]
  simp [hl]
theorem same2 {G : Gm} {f : Nat} (h : G.defs f = some (sameD f)) (xs : List D) (hl : xs.length ≤ 16777216) (k : Nat) (S : Sto) (call : ∀ (i : Nat) (hi : i < xs.length), run G (k + 1) f [.d xs[i], .d xs[i]] [] = .ok (.d (.bl true)) []) : run G (k + 2) f [.d (.tup xs), .d (.tup xs)] S = .ok (.d (.bl true)) S := by
  rw [run_alone h rfl rfl rfl]
  simp [sameD, sameB, wk_rngN (n := xs.length) (by omega)]
  rw [turns_rng (n := xs.length) (fun _ => .d (.bl true)) hl fun j hj => by simp [hj, call]]
  simp [hl]
theorem same_run {G : Gm} {f : Nat} (h : G.defs f = some (sameD f)) : ∀ (n : Nat) (d : D), okS n d = true → ∀ k, n ≤ k → ∀ S, run G (k + 1) f [.d d, .d d] S = .ok (.d (.bl true)) S := by
  intro n
  induction n with
  | zero => exact fun d hd k _ S => same0 h d hd k S
  | succ n ih =>
    intro d hd k hk S
    cases k with
    | zero => omega
    | succ k =>
      cases d with
      | tup xs =>
        simp only [okS, Bool.and_eq_true, decide_eq_true_eq] at hd
        exact same2 h xs hd.1 k S fun i hi => ih _ (okSs_all hd.2 _ (List.getElem_mem hi)) k (by omega) []
      | lst xs =>
        simp only [okS, Bool.and_eq_true, decide_eq_true_eq] at hd
        exact same1 h xs hd.1 k S fun i hi => ih _ (okSs_all hd.2 _ (List.getElem_mem hi)) k (by omega) []
      | _ => exact ih _ (by simpa [okS] using hd) (k + 1) (by omega) S
end Z
end

section
set_option maxHeartbeats 1000000
set_option maxRecDepth 10000
/-! Z21: texts. -/
namespace Z
open PySem L2
def joinTx (sep : Tx) : List Tx → Tx
  | [] => []
  | [x] => x
  | x :: y :: r => x ++ sep ++ joinTx sep (y :: r)
theorem un_join (sep : Tx) : ∀ ts : List Tx, un (Txt.join (mk sep) (ts.map mk)) = joinTx sep ts := by
  intro ts
  show un (Builtin.Str.glued (mk sep) (ts.map mk)) = _
  rw [StrLaws.glued_eq_join]
  induction ts with
  | nil => rfl
  | cons x r ih =>
    cases r with
    | nil => simp [un, mk, PySem.Str.join, joinTx]
    | cons y r =>
      show (mk x ++ mk sep ++ PySem.Str.join (mk sep) ((y :: r).map mk)).cps.toList = x ++ sep ++ joinTx sep (y :: r)
      rw [← ih]
      simp [Str.cps_append, mk, un]
theorem joinTx_nil : ∀ ts : List Tx, joinTx [] ts = ts.flatten
  | [] => rfl
  | [x] => by simp [joinTx]
  | x :: y :: r => by simp [joinTx, joinTx_nil (y :: r)]
theorem mk_len (s : Tx) : (mk s).length = s.length := rfl
theorem mk_cps (s : Tx) : (mk s).cps.toList = s := rfl
theorem sub_one (s : Tx) (c i : Nat) : Builtin.Str.subAt (mk s) (mk [c]) i = true ↔ s[i]? = some c := by
  rw [StrLaws.subAt_eq]
  exact StrLaws.take1_drop
/-- how often a character stands in a text -/
theorem count_one (s : Tx) (c : Nat) : Txt.count (mk s) (mk [c]) = (s.count c : Int) := by
  show ((Builtin.Str.occurrences (mk s) (mk [c]) 0 (mk s).length ((mk s).length + 1)).length : Int) = _
  rw [StrLaws.occ_eq]
  have key : ∀ (n a : Nat) (st : Array Nat × Nat), st.1.size ≤ a → st.2 ≤ a → a + n = s.length + 1 →
      (forIn (m := Id) (List.range' a n) st (StrLaws.occBody (mk s) (mk [c]) (mk s).length ((mk s).length + 1))).run.1.size = st.1.size + (s.drop a).count c := by
    intro n
    induction n with
    | zero =>
      intro a st h1 h2 h3
      simp [List.drop_eq_nil_of_le (show s.length ≤ a by omega)]
    | succ n ih =>
      intro a st h1 h2 h3
      rw [List.range'_succ, List.forIn_cons]
      by_cases hs : s[a]? = some c
      · have hl : a < s.length := (List.getElem?_eq_some_iff.mp hs).1
        have hc : ((st.fst.size < (mk s).length + 1 ∧ st.snd ≤ a) ∧ a + (mk [c]).length ≤ (mk s).length) ∧ Builtin.Str.subAt (mk s) (mk [c]) a = true := ⟨⟨⟨by rw [mk_len]; omega, h2⟩, by rw [mk_len, mk_len]; simp; omega⟩, (sub_one s c a).mpr hs⟩
        have e : StrLaws.occBody (mk s) (mk [c]) (mk s).length ((mk s).length + 1) a st = pure (ForInStep.yield (st.fst.push a, a + (mk [c]).length)) := by unfold StrLaws.occBody; rw [if_pos hc]
        rw [e]
        simp only [pure_bind]
        rw [ih (a + 1) _ (by simp; omega) (by rw [mk_len]; simp) (by omega)]
        rw [List.drop_eq_getElem_cons hl]
        have : s[a] = c := by rw [List.getElem?_eq_getElem hl] at hs; exact Option.some.inj hs
        simp [this]
        omega
      · have e : StrLaws.occBody (mk s) (mk [c]) (mk s).length ((mk s).length + 1) a st = pure (ForInStep.yield (st.fst, st.snd)) := by
          unfold StrLaws.occBody; rw [if_neg fun h => hs ((sub_one s c a).mp h.2)]
        rw [e]
        simp only [pure_bind]
        rw [ih (a + 1) _ (by simp; omega) (by simp; omega) (by omega)]
        by_cases hl : a < s.length
        · rw [List.drop_eq_getElem_cons hl]
          have : s[a] ≠ c := fun h => hs (by rw [List.getElem?_eq_getElem hl, h])
          rw [List.count_cons_of_ne this]
        · rw [List.drop_eq_nil_of_le (by omega), List.drop_eq_nil_of_le (by omega)]
  have := key (s.length + 1) 0 (#[], 0) (Nat.le_refl _) (Nat.le_refl _) (by omega)
  rw [mk_len] at this ⊢
  simp only [Array.length_toList, Nat.sub_zero]
  rw [this]
  simp
/-- where a character stands last -/
def lastIx (s : Tx) (c : Nat) : Option Nat := (List.range s.length).foldl (fun l i => if s[i]? = some c then some i else l) none
theorem forIn_fold {β : Type} (f : Nat → β → β) (g : Nat → β → Id (ForInStep β)) (h : ∀ i b, g i b = pure (ForInStep.yield (f i b))) : ∀ (l : List Nat) (b : β), (forIn (m := Id) l b g).run = l.foldl (fun b i => f i b) b
  | [], b => rfl
  | i :: l, b => by
    rw [List.forIn_cons, h, List.foldl_cons]
    exact forIn_fold f g h l (f i b)
theorem foldl_ext {β : Type} {f g : β → Nat → β} : ∀ (l : List Nat) (b : β), (∀ i ∈ l, ∀ b, f b i = g b i) → l.foldl f b = l.foldl g b
  | [], b, _ => rfl
  | i :: l, b, h => by
    rw [List.foldl_cons, List.foldl_cons, h i (List.mem_cons_self ..)]
    exact foldl_ext l _ fun j hj => h j (List.mem_cons_of_mem _ hj)
theorem last_one (s : Tx) (c : Nat) : Builtin.Str.lastOccurrence (mk s) (mk [c]) 0 (mk s).length = lastIx s c := by
  have e : Builtin.Str.lastOccurrence (mk s) (mk [c]) 0 (mk s).length = (List.range (s.length + 1)).foldl (fun l i => if (i + 1 ≤ s.length ∧ s[i]? = some c) then some i else l) none := by
    unfold Builtin.Str.lastOccurrence
    simp [List.range_eq_range', mk_len, sub_one]
    exact forIn_fold (fun i l => if i + 1 ≤ List.length s ∧ s[i]? = some c then some i else l) _ (fun i b => by split <;> rfl) _ _
  rw [e, List.range_succ, List.foldl_append]
  unfold lastIx
  simp
  exact foldl_ext _ _ fun i hi b => by
    have : i + 1 ≤ s.length := by have := List.mem_range.mp hi; omega
    simp [this]
theorem rfind_one (s : Tx) (c : Nat) : Txt.rfind (mk s) (mk [c]) = match lastIx s c with | some i => (i : Int) | none => -1 := by
  show (match Builtin.Str.lastOccurrence (mk s) (mk [c]) 0 (mk s).length with | some i => (i : Int) | none => -1) = _
  rw [last_one]
@[simp] theorem rfind_nil (c : Nat) : Txt.rfind (mk []) (mk [c]) = -1 := by
  rw [rfind_one]; rfl
theorem rfind_snoc (s : Tx) (d c : Nat) : Txt.rfind (mk (s ++ [d])) (mk [c]) = if d = c then (s.length : Int) else Txt.rfind (mk s) (mk [c]) := by
  rw [rfind_one, rfind_one]
  have e : lastIx (s ++ [d]) c = if d = c then some s.length else lastIx s c := by
    unfold lastIx
    rw [List.length_append, List.length_singleton, List.range_succ, List.foldl_append]
    simp only [List.foldl_cons, List.foldl_nil]
    rw [List.getElem?_append_right (Nat.le_refl _)]
    simp only [Nat.sub_self, List.getElem?_cons_zero, Option.some.injEq]
    split
    · rfl
    · exact foldl_ext _ _ fun i hi b => by rw [List.getElem?_append_left (List.mem_range.mp hi)]
  rw [e]
  by_cases h : d = c
  · rw [if_pos h, if_pos h]
  · rw [if_neg h, if_neg h]
end Z
end

section
set_option maxHeartbeats 1000000
set_option maxRecDepth 10000
/-! Z22: loops. -/
namespace Z
open PySem L2
/-- a comprehension that may change the cells: what stays true of them, and of each item made -/
theorem turns_inv {f : Env → Sto → Res (Option Vl)} {t : Tg} {ρ : Env} (I : Sto → Prop) (P : Vl → Prop) : ∀ {xs acc : List Vl} {S : Sto}, (∀ v ∈ xs, ∀ S, I S → ∃ ρ' y S', bindT t v ρ = some ρ' ∧ f ρ' S = .ok (some y) S' ∧ I S' ∧ P y) → I S → acc.length + xs.length ≤ 16777216 →
    ∃ ys S', turns f t ρ xs acc S = .ok (acc ++ ys) S' ∧ I S' ∧ ys.length = xs.length ∧ ∀ y ∈ ys, P y
  | [], acc, S, _, hI, _ => ⟨[], S, by simp [turns], hI, rfl, fun _ h => nomatch h⟩
  | v :: xs, acc, S, h, hI, hl => by
    obtain ⟨ρ', y, S1, h1, h2, h3, h4⟩ := h v (List.mem_cons_self ..) S hI
    have hl' : acc.length + 1 + xs.length ≤ 16777216 := by simp only [List.length_cons] at hl; omega
    have hz : acc.length < 16777216 := by omega
    obtain ⟨ys, S', e, i, l, p⟩ := turns_inv I P (xs := xs) (acc := acc ++ [y]) (S := S1) (fun w hw => h w (List.mem_cons_of_mem _ hw)) h3 (by simp; omega)
    refine ⟨y :: ys, S', ?_, i, by simp [l], fun z hz => ?_⟩
    · simp only [turns, h1, h2, most, hz, decide_true, if_true]
      rw [e]; simp
    · rcases List.mem_cons.mp hz with rfl | hz
      · exact h4
      · exact p z hz
/-- the same, for all environments of a kind at once -/
theorem turns_all {f : Env → Sto → Res (Option Vl)} {t : Tg} (R : Env → Prop) (I : Sto → Prop) (P : Vl → Prop) : ∀ {xs : List Vl} (acc : List Vl) {S : Sto}, (∀ v ∈ xs, ∀ S, I S → ∃ y S', I S' ∧ P y ∧ ∀ ρ, R ρ → ∃ ρ', bindT t v ρ = some ρ' ∧ f ρ' S = .ok (some y) S') → I S → acc.length + xs.length ≤ 16777216 →
    ∃ ys S', I S' ∧ ys.length = xs.length ∧ (∀ y ∈ ys, P y) ∧ ∀ ρ, R ρ → turns f t ρ xs acc S = .ok (acc ++ ys) S'
  | [], acc, S, _, hI, _ => ⟨[], S, hI, rfl, (fun _ h => nomatch h), fun ρ _ => by simp [turns]⟩
  | v :: xs, acc, S, h, hI, hl => by
    obtain ⟨y, S1, h3, h4, h5⟩ := h v (List.mem_cons_self ..) S hI
    have hl' : acc.length + 1 + xs.length ≤ 16777216 := by simp only [List.length_cons] at hl; omega
    have hz : acc.length < 16777216 := by omega
    obtain ⟨ys, S', i, l, p, e⟩ := turns_all R I P (xs := xs) (acc ++ [y]) (S := S1) (fun w hw => h w (List.mem_cons_of_mem _ hw)) h3 (by simp; omega)
    refine ⟨y :: ys, S', i, by simp [l], fun z hz => ?_, fun ρ hR => ?_⟩
    · rcases List.mem_cons.mp hz with rfl | hz
      · exact h4
      · exact p z hz
    · obtain ⟨ρ', h1, h2⟩ := h5 ρ hR
      simp only [turns, h1, h2, most, hz, decide_true, if_true]
      rw [e ρ hR]; simp
theorem turns_ds {f : Env → Sto → Res (Option Vl)} {i : Nat} {ρ : Env} {S : Sto} (g : D → D) : ∀ {ds : List D} (acc : List Vl), (∀ d ∈ ds, f (ρ.set i (some (.d d))) S = .ok (some (.d (g d))) S) → acc.length + ds.length ≤ 16777216 → turns f (.var i) ρ (ds.map .d) acc S = .ok (acc ++ ds.map fun d => .d (g d)) S
  | [], acc, _, _ => by simp [turns]
  | d :: ds, acc, h, hl => by
    have hl' : acc.length + 1 + ds.length ≤ 16777216 := by simp only [List.length_cons] at hl; omega
    have hz : acc.length < 16777216 := by omega
    have ih := turns_ds g (ds := ds) (acc ++ [.d (g d)]) (fun e he => h e (List.mem_cons_of_mem _ he)) (by simp; omega)
    rw [List.map_cons]
    unfold turns
    simp only [bindT_var, h d (List.mem_cons_self ..), most, hz, decide_true, if_true]
    rw [ih]
    simp
/-- texts made -/
theorem all_str {ys : List Vl} {p : Tx → Prop} : (∀ y ∈ ys, ∃ t : Tx, y = .d (.str t) ∧ p t) → ∃ ts : List Tx, ys = ts.map (fun t => .d (.str t)) ∧ ∀ t ∈ ts, p t := by
  induction ys with
  | nil => exact fun _ => ⟨[], rfl, fun _ h => nomatch h⟩
  | cons y ys ih =>
    intro h
    obtain ⟨t, e, hp⟩ := h y (List.mem_cons_self ..)
    obtain ⟨ts, e2, hp2⟩ := ih fun z hz => h z (List.mem_cons_of_mem _ hz)
    exact ⟨t :: ts, by rw [e, e2]; rfl, fun z hz => by
      rcases List.mem_cons.mp hz with rfl | hz
      · exact hp
      · exact hp2 z hz⟩
theorem all_int {ys : List Vl} {p : Int → Prop} : (∀ y ∈ ys, ∃ t : Int, y = .d (.int t) ∧ p t) → ∃ ts : List Int, ys = ts.map (fun t => .d (.int t)) ∧ ∀ t ∈ ts, p t := by
  induction ys with
  | nil => exact fun _ => ⟨[], rfl, fun _ h => nomatch h⟩
  | cons y ys ih =>
    intro h
    obtain ⟨t, e, hp⟩ := h y (List.mem_cons_self ..)
    obtain ⟨ts, e2, hp2⟩ := ih fun z hz => h z (List.mem_cons_of_mem _ hz)
    exact ⟨t :: ts, by rw [e, e2]; rfl, fun z hz => by
      rcases List.mem_cons.mp hz with rfl | hz
      · exact hp
      · exact hp2 z hz⟩
theorem all_d {ys : List Vl} {p : D → Prop} : (∀ y ∈ ys, ∃ t : D, y = .d t ∧ p t) → ∃ ts : List D, ys = ts.map .d ∧ ∀ t ∈ ts, p t := by
  induction ys with
  | nil => exact fun _ => ⟨[], rfl, fun _ h => nomatch h⟩
  | cons y ys ih =>
    intro h
    obtain ⟨t, e, hp⟩ := h y (List.mem_cons_self ..)
    obtain ⟨ts, e2, hp2⟩ := ih fun z hz => h z (List.mem_cons_of_mem _ hz)
    exact ⟨t :: ts, by rw [e, e2]; rfl, fun z hz => by
      rcases List.mem_cons.mp hz with rfl | hz
      · exact hp
      · exact hp2 z hz⟩
theorem exs_cat {G : Gm} {rc : Rc} (b : List St) : ∀ (a : List St) {ρ : Env} {S : Sto}, exs G rc (a ++ b) ρ S = (exs G rc a ρ S).seq (exs G rc b)
  | [], ρ, S => rfl
  | s :: a, ρ, S => by
    show (ex G rc s ρ S).seq (fun ρ S => exs G rc (a ++ b) ρ S) = ((ex G rc s ρ S).seq fun ρ S => exs G rc a ρ S).seq (exs G rc b)
    cases ex G rc s ρ S with
    | nx ρ' S' => exact exs_cat b a
    | _ => rfl
theorem exs_split {G : Gm} {rc : Rc} {ρ : Env} {S : Sto} (n : Nat) (b : List St) : exs G rc b ρ S = (exs G rc (b.take n) ρ S).seq (exs G rc (b.drop n)) := by
  have h := exs_cat (G := G) (rc := rc) (b.drop n) (b.take n) (ρ := ρ) (S := S)
  rw [List.take_append_drop] at h
  exact h
/-- a for, turn by turn -/
def forNx (b : Env → Sto → RS) (t : Tg) (vs : List Vl) : RS → RS
  | .nx ρ S => fors b t vs ρ S
  | .ct ρ S => fors b t vs ρ S
  | .bk ρ S => .nx ρ S
  | r => r
section
variable {b : Env → Sto → RS} {t : Tg} {v w : Vl} {vs : List Vl} {ρ : Env} {S : Sto} {i : Nat}
theorem forNx_nx : forNx b t vs (.nx ρ S) = fors b t vs ρ S := (rfl)
theorem forNx_ct : forNx b t vs (.ct ρ S) = fors b t vs ρ S := (rfl)
theorem forNx_bk : forNx b t vs (.bk ρ S) = .nx ρ S := (rfl)
theorem forNx_rt : forNx b t vs (.rt w S) = .rt w S := (rfl)
theorem fors_none : fors b t [] ρ S = .nx ρ S := (rfl)
theorem fors_var : fors b (.var i) (v :: vs) ρ S = forNx b (.var i) vs (b (ρ.set i (some v)) S) := by
  show (match b (ρ.set i (some v)) S with
    | .nx ρ S => fors b (.var i) vs ρ S
    | .ct ρ S => fors b (.var i) vs ρ S
    | .bk ρ S => .nx ρ S
    | r => r) = _
  cases b (ρ.set i (some v)) S <;> rfl
end
/-- a for that goes to its end, by what is walked so far -/
theorem fors_pre {b : Env → Sto → RS} {t : Tg} {xs : List Vl} (I : List Vl → Env → Sto → Prop)
    (h : ∀ pre v post, xs = pre ++ v :: post → ∀ ρ S, I pre ρ S → ∃ ρ1 ρ2 S2, bindT t v ρ = some ρ1 ∧ (b ρ1 S = .nx ρ2 S2 ∨ b ρ1 S = .ct ρ2 S2) ∧ I (pre ++ [v]) ρ2 S2) {ρ : Env} {S : Sto} (h0 : I [] ρ S) : ∃ ρ' S', fors b t xs ρ S = .nx ρ' S' ∧ I xs ρ' S' := by
  have key : ∀ (post pre : List Vl) (ρ : Env) (S : Sto), xs = pre ++ post → I pre ρ S → ∃ ρ' S', fors b t post ρ S = .nx ρ' S' ∧ I xs ρ' S' := by
    intro post
    induction post with
    | nil =>
      intro pre ρ S e hI
      rw [List.append_nil] at e
      subst e
      exact ⟨ρ, S, rfl, hI⟩
    | cons v post ih =>
      intro pre ρ S e hI
      obtain ⟨ρ1, ρ2, S2, h1, h2, h3⟩ := h pre v post e ρ S hI
      obtain ⟨ρ', S', h4, h5⟩ := ih (pre ++ [v]) ρ2 S2 (by rw [e]; simp) h3
      refine ⟨ρ', S', ?_, h5⟩
      unfold fors
      rw [h1]
      rcases h2 with h2 | h2 <;> (simp only [h2]; exact h4)
  exact key xs [] ρ S rfl h0
/-- a for, by what is to come; it may end early -/
theorem fors_rest {b : Env → Sto → RS} {t : Tg} (I : List Vl → Env → Sto → Prop) (R : RS → Prop)
    (h : ∀ v vs ρ S, I (v :: vs) ρ S → ∃ ρ1, bindT t v ρ = some ρ1 ∧ ((∃ ρ2 S2, (b ρ1 S = .nx ρ2 S2 ∨ b ρ1 S = .ct ρ2 S2) ∧ I vs ρ2 S2) ∨ (∃ ρ2 S2, b ρ1 S = .bk ρ2 S2 ∧ R (.nx ρ2 S2)) ∨ (∃ w S2, b ρ1 S = .rt w S2 ∧ R (.rt w S2))))
    (hn : ∀ ρ S, I [] ρ S → R (.nx ρ S)) : ∀ {xs : List Vl} {ρ : Env} {S : Sto}, I xs ρ S → R (fors b t xs ρ S)
  | [], ρ, S, hI => hn ρ S hI
  | v :: vs, ρ, S, hI => by
    obtain ⟨ρ1, h1, h2⟩ := h v vs ρ S hI
    unfold fors
    rw [h1]
    rcases h2 with ⟨ρ2, S2, h2 | h2, h3⟩ | ⟨ρ2, S2, h2, h3⟩ | ⟨w, S2, h2, h3⟩
    · simp only [h2]; exact fors_rest I R h hn h3
    · simp only [h2]; exact fors_rest I R h hn h3
    · simp only [h2]; exact h3
    · simp only [h2]; exact h3
/-- a for over a range, by the index; it may end early -/
theorem fors_range {b : Env → Sto → RS} {i n : Nat} (I : Nat → Env → Sto → Prop) (R : RS → Prop)
    (h : ∀ j ρ S, j < n → I j ρ S → ((∃ ρ2 S2, (b (ρ.set i (some (.d (.int (j : Int))))) S = .nx ρ2 S2 ∨ b (ρ.set i (some (.d (.int (j : Int))))) S = .ct ρ2 S2) ∧ I (j + 1) ρ2 S2) ∨
      (∃ ρ2 S2, b (ρ.set i (some (.d (.int (j : Int))))) S = .bk ρ2 S2 ∧ R (.nx ρ2 S2)) ∨ (∃ w S2, b (ρ.set i (some (.d (.int (j : Int))))) S = .rt w S2 ∧ R (.rt w S2))))
    (hn : ∀ ρ S, I n ρ S → R (.nx ρ S)) {ρ : Env} {S : Sto} (h0 : I 0 ρ S) : R (fors b (.var i) ((List.range n).map fun (j : Nat) => .d (.int (j : Int))) ρ S) := by
  refine fors_rest (fun xs ρ S => ∃ j, j ≤ n ∧ xs = ((List.range n).drop j).map (fun (j : Nat) => Vl.d (.int (j : Int))) ∧ I j ρ S) R (fun v vs ρ S ⟨j, hj, e, hI⟩ => ?_) (fun ρ S ⟨j, hj, e, hI⟩ => ?_) ⟨0, Nat.zero_le _, by simp, h0⟩
  · have hlt : j < n := by
      by_cases hlt : j < n
      · exact hlt
      · rw [List.drop_eq_nil_of_le (by simp; omega)] at e
        cases e
    have hl : j < (List.range n).length := by simpa using hlt
    rw [List.drop_eq_getElem_cons hl, List.map_cons] at e
    injection e with e1 e2
    rw [List.getElem_range] at e1
    subst e1
    refine ⟨_, rfl, ?_⟩
    rcases h j ρ S hlt hI with ⟨ρ2, S2, hb, hI2⟩ | h2 | h2
    · exact .inl ⟨ρ2, S2, hb, j + 1, hlt, e2, hI2⟩
    · exact .inr (.inl h2)
    · exact .inr (.inr h2)
  · have : j = n := by
      by_cases hlt : j < n
      · have hl : j < (List.range n).length := by simpa using hlt
        rw [List.drop_eq_getElem_cons hl] at e
        cases e
      · omega
    subst this
    exact hn ρ S hI
/-- a while, by a measure -/
theorem whl_rest {c : Env → Sto → Res Bool} {b : Env → Sto → RS} (I : Nat → Env → Sto → Prop) (R : RS → Prop)
    (h : ∀ m ρ S, I m ρ S → (c ρ S = .ok false S ∧ R (.nx ρ S)) ∨ (c ρ S = .ok true S ∧ ((∃ m' ρ2 S2, m' < m ∧ (b ρ S = .nx ρ2 S2 ∨ b ρ S = .ct ρ2 S2) ∧ I m' ρ2 S2) ∨ (∃ ρ2 S2, b ρ S = .bk ρ2 S2 ∧ R (.nx ρ2 S2)) ∨ (∃ w S2, b ρ S = .rt w S2 ∧ R (.rt w S2))))) :
    ∀ {n m : Nat} {ρ : Env} {S : Sto}, m < n → I m ρ S → R (whl c b n ρ S)
  | 0, m, ρ, S, hm, _ => absurd hm (Nat.not_lt_zero _)
  | n + 1, m, ρ, S, hm, hI => by
    unfold whl
    rcases h m ρ S hI with ⟨h1, h2⟩ | ⟨h1, h2⟩
    · rw [h1]; exact h2
    · rw [h1]
      simp only [thn_ok, if_true]
      rcases h2 with ⟨m', ρ2, S2, hlt, h2 | h2, h3⟩ | ⟨ρ2, S2, h2, h3⟩ | ⟨w, S2, h2, h3⟩
      · simp only [h2]; exact whl_rest I R h (by omega) h3
      · simp only [h2]; exact whl_rest I R h (by omega) h3
      · simp only [h2]; exact h3
      · simp only [h2]; exact h3
/-! ### small facts -/
@[simp] theorem pures_comp {τ : Type} (f : τ → D) (ds : List τ) : pures (ds.map (Vl.d ∘ f)) = some (ds.map f) := pures_mapf f ds
@[simp] theorem textL_str (ts : List Tx) : textL (ts.map .str) = some ts := by
  have := textL_map (fun t => t) ts
  simpa using this
@[simp] theorem intL_int (ts : List Int) : intL (ts.map .int) = some ts := by
  have := intL_map (fun t => t) ts
  simpa using this
@[simp] theorem boolL_bl (ts : List Bool) : boolL (ts.map .bl) = some ts := by
  have := boolL_map (fun t => t) ts
  simpa using this
@[simp] theorem textL_nil : textL [] = some [] := (rfl)
@[simp] theorem textL_cons (t : Tx) (ds : List D) : textL (.str t :: ds) = (textL ds).map (t :: ·) := (rfl)
@[simp] theorem intL_nil : intL [] = some [] := (rfl)
@[simp] theorem intL_cons (t : Int) (ds : List D) : intL (.int t :: ds) = (intL ds).map (t :: ·) := (rfl)
@[simp] theorem boolL_nil : boolL [] = some [] := (rfl)
@[simp] theorem boolL_cons (t : Bool) (ds : List D) : boolL (.bl t :: ds) = (boolL ds).map (t :: ·) := (rfl)
theorem join_lst {sep : Tx} {ts : List Tx} {ds : List D} {S : Sto} (h : textL ds = some ts) (hl : (ts.map List.length).sum + ts.length * sep.length ≤ 16777216) : mJoin (.d (.str sep)) (.d (.lst ds)) S = .ok (.d (.str (joinTx sep ts))) S := by
  simp [mJoin, h, hl, un_join]
@[simp] theorem join_map {sep : Tx} {ts : List Tx} {S : Sto} (hl : (ts.map List.length).sum + ts.length * sep.length ≤ 16777216) : mJoin (.d (.str sep)) (.d (.lst (ts.map .str))) S = .ok (.d (.str (joinTx sep ts))) S := join_lst (textL_str ts) hl

@[simp] theorem eqv_int (i j : Int) : eqv (.int i) (.int j) = decide (i = j) := (rfl)
@[simp] theorem eqv_str (i j : Tx) : eqv (.str i) (.str j) = decide (i = j) := (rfl)
@[simp] theorem eqv_bl (i j : Bool) : eqv (.bl i) (.bl j) = decide (i = j) := by cases i <;> cases j <;> rfl
@[simp] theorem eqv_non_int (j : Int) : eqv .non (.int j) = false := (rfl)
@[simp] theorem eqv_int_non (j : Int) : eqv (.int j) .non = false := (rfl)
@[simp] theorem eqv_str_int (i : Tx) (j : Int) : eqv (.str i) (.int j) = false := (rfl)
@[simp] theorem eqv_int_str (i : Int) (j : Tx) : eqv (.int i) (.str j) = false := (rfl)
@[simp] theorem eqv_str_non (i : Tx) : eqv (.str i) .non = false := (rfl)
@[simp] theorem eqv_non_str (i : Tx) : eqv .non (.str i) = false := (rfl)
theorem sIx_none (n d : Nat) : HT.sIx n d none = d := (rfl)
@[simp] theorem cut_to {α : Type} (xs : List α) (o : Nat) : cut xs none (some (o : Int)) = xs.take o := by
  unfold cut
  rw [HT.sIx_nat, HT.sIx_none, List.drop_zero, Nat.sub_zero]
  by_cases h : o ≤ xs.length
  · rw [Nat.min_eq_left h]
  · rw [Nat.min_eq_right (by omega), List.take_of_length_le (Nat.le_refl _), List.take_of_length_le (by omega)]
@[simp] theorem cut_from {α : Type} (xs : List α) (o : Nat) : cut xs (some (o : Int)) none = xs.drop o := by
  unfold cut
  rw [HT.sIx_nat, HT.sIx_none]
  by_cases h : o ≤ xs.length
  · rw [Nat.min_eq_left h, List.take_of_length_le (by simp)]
  · rw [Nat.min_eq_right (by omega), List.drop_of_length_le (Nat.le_refl _), List.drop_of_length_le (by omega), List.take_nil]
@[simp] theorem cut_both {α : Type} (xs : List α) (a b : Nat) : cut xs (some (a : Int)) (some (b : Int)) = (xs.drop a).take (b - a) := by
  unfold cut
  rw [HT.sIx_nat, HT.sIx_nat]
  by_cases h : a ≤ xs.length
  · rw [Nat.min_eq_left h]
    by_cases h2 : b ≤ xs.length
    · rw [Nat.min_eq_left h2]
    · rw [Nat.min_eq_right (show xs.length ≤ b by omega), List.take_of_length_le (by simp), List.take_of_length_le (by simp; omega)]
  · rw [Nat.min_eq_right (show xs.length ≤ a by omega), List.drop_of_length_le (Nat.le_refl _), List.drop_of_length_le (by omega)]
    simp
/-! ### the order of data -/
theorem ltDt_cons {x y : D} {xs ys : List D} (ha : alikeD x y = true) (hx : isData 64 x = true) (hy : isData 64 y = true) : ltDt (.tup (x :: xs)) (.tup (y :: ys)) = if eqv x y then ltDt (.tup xs) (.tup ys) else ltDt x y := by
  unfold ltDt
  simp only [toPy, toPys]
  rw [PySem.W.dataLt_tuple, PySem.W.dataLt_tuple, PySem.W.dataLt_cons ha, eqv_py 64 64 x y hx hy]
theorem ltDt_nil : ltDt (.tup []) (.tup []) = false := by
  unfold ltDt
  simp only [toPy, toPys]
  rw [PySem.W.dataLt_tuple]
  exact PySem.W.dataLt_ints [] []
@[simp] theorem ltDt_int (i j : Int) : ltDt (.int i) (.int j) = decide (i < j) := PySem.W.dataLt_int i j
@[simp] theorem ltDt_str (i j : Tx) : ltDt (.str i) (.str j) = ltTx i j := PySem.W.dataLt_str _ _
@[simp] theorem alike_int (i j : Int) : alikeD (.int i) (.int j) = true := by simp [alikeD, toPy, PySem.W.alike]
@[simp] theorem alike_str (i j : Tx) : alikeD (.str i) (.str j) = true := by simp [alikeD, toPy, PySem.W.alike]
theorem alike_tup {x y : D} {xs ys : List D} (h : alikeD x y = true) (h2 : alikeD (.tup xs) (.tup ys) = true) : alikeD (.tup (x :: xs)) (.tup (y :: ys)) = true := by
  unfold alikeD at *
  simp only [toPy, toPys, PySem.W.alike, PySem.W.alikeAll] at *
  rw [h, h2]; rfl
theorem alike_tup0 {ys : List D} : alikeD (.tup []) (.tup ys) = true := by
  unfold alikeD
  simp [toPy, toPys, PySem.W.alike, PySem.W.alikeAll]
theorem eqv_tup_cons (x y : D) (xs ys : List D) : eqv (.tup (x :: xs)) (.tup (y :: ys)) = (eqv x y && eqv (.tup xs) (.tup ys)) := by
  simp [eqv, nz, nzs, D.beq, D.beqs]
theorem eqv_tup_nil : eqv (.tup []) (.tup []) = true := (rfl)
end Z
end

section
set_option maxHeartbeats 1000000
/-! B1: decision diagrams as trees; numbers that stand for them. -/
namespace Z
/-- a diagram -/
inductive Bt where
  | leaf (b : Bool) | node (e : Int) (l r : Bt)
  deriving Inhabited, DecidableEq
def Bt.val : Bt → (Int → Bool) → Bool
  | .leaf b, _ => b
  | .node e l r, ρ => if ρ e then r.val ρ else l.val ρ
/-- a reduced diagram that asks about the entries E alone, from the first on -/
inductive Wt : List Int → Bt → Prop
  | leaf {E : List Int} {b : Bool} : Wt E (.leaf b)
  | skip {E : List Int} {x : Int} {t : Bt} : Wt E t → Wt (x :: E) t
  | node {E : List Int} {x : Int} {l r : Bt} : Wt E l → Wt E r → l ≠ r → Wt (x :: E) (.node x l r)
abbrev Asc (E : List Int) : Prop := E.Pairwise (· < ·)
theorem Wt.val_congr {E : List Int} {t : Bt} (h : Wt E t) {ρ σ : Int → Bool} : (∀ e ∈ E, ρ e = σ e) → t.val ρ = t.val σ := by
  induction h with
  | leaf => intro _; rfl
  | skip _ ih => intro k; exact ih fun e he => k e (List.mem_cons_of_mem _ he)
  | @node E x l r _ _ _ ih1 ih2 =>
    intro k
    show (if ρ x then r.val ρ else l.val ρ) = if σ x then r.val σ else l.val σ
    rw [k x (by simp), ih1 fun e he => k e (List.mem_cons_of_mem _ he), ih2 fun e he => k e (List.mem_cons_of_mem _ he)]
theorem Wt.mem {E : List Int} {t : Bt} (h : Wt E t) : ∀ {e : Int} {l r : Bt}, t = .node e l r → e ∈ E := by
  induction h with
  | leaf => intro _ _ _ e; cases e
  | skip _ ih => intro _ _ _ e; exact List.mem_cons_of_mem _ (ih e)
  | node _ _ _ _ _ => intro _ _ _ e; cases e; simp
theorem Wt.app {E : List Int} {t : Bt} (h : Wt E t) : ∀ P : List Int, Wt (P ++ E) t
  | [] => h
  | x :: P => .skip (Wt.app h P)
def upB (ρ : Int → Bool) (x : Int) (b : Bool) : Int → Bool := fun e => if e = x then b else ρ e
theorem Wt.val_up {E : List Int} {t : Bt} (h : Wt E t) {x : Int} (hx : x ∉ E) (ρ : Int → Bool) (b : Bool) : t.val (upB ρ x b) = t.val ρ :=
  h.val_congr fun e he => by
    have : e ≠ x := fun z => hx (by rw [← z]; exact he)
    unfold upB; rw [if_neg this]
theorem val_node (x : Int) (l r : Bt) (ρ : Int → Bool) : (Bt.node x l r).val ρ = if ρ x then r.val ρ else l.val ρ := rfl
/-- one diagram for each meaning -/
theorem Wt.canon : ∀ {E : List Int} {t u : Bt}, Asc E → Wt E t → Wt E u → (∀ ρ, t.val ρ = u.val ρ) → t = u
  | [], t, u, _, h1, h2, k => by
    cases h1 with
    | leaf =>
      cases h2 with
      | leaf => have := k fun _ => false; simp [Bt.val] at this; rw [this]
  | x :: E, t, u, ha, h1, h2, k => by
    have ha' := List.pairwise_cons.mp ha
    have hx : x ∉ E := fun z => Int.lt_irrefl x (ha'.1 x z)
    have nodeCase : ∀ {l r v : Bt}, Wt E l → Wt E r → l ≠ r → Wt E v → (∀ ρ, (Bt.node x l r).val ρ = v.val ρ) → False := fun {l r v} hl hr hne hv kk => by
      apply hne
      have e1 : l = v := canon ha'.2 hl hv fun ρ => by
        have := kk (upB ρ x false)
        rw [val_node, hv.val_up hx, hl.val_up hx, hr.val_up hx] at this
        simpa [upB] using this
      have e2 : r = v := canon ha'.2 hr hv fun ρ => by
        have := kk (upB ρ x true)
        rw [val_node, hv.val_up hx, hl.val_up hx, hr.val_up hx] at this
        simpa [upB] using this
      rw [e1, e2]
    cases h1 with
    | leaf =>
      cases h2 with
      | leaf => have := k fun _ => false; simp [Bt.val] at this; rw [this]
      | skip h2 => exact canon ha'.2 .leaf h2 k
      | node hl hr hne => exact (nodeCase hl hr hne .leaf fun ρ => (k ρ).symm).elim
    | skip h1 =>
      cases h2 with
      | leaf => exact canon ha'.2 h1 .leaf k
      | skip h2 => exact canon ha'.2 h1 h2 k
      | node hl hr hne => exact (nodeCase hl hr hne h1 fun ρ => (k ρ).symm).elim
    | @node _ _ l r hl hr hne =>
      cases h2 with
      | leaf => exact (nodeCase hl hr hne .leaf k).elim
      | skip h2 => exact (nodeCase hl hr hne h2 k).elim
      | @node _ _ l' r' hl' hr' hne' =>
        have e1 : l = l' := canon ha'.2 hl hl' fun ρ => by
          have := k (upB ρ x false)
          rw [val_node, val_node, hl.val_up hx, hr.val_up hx, hl'.val_up hx, hr'.val_up hx] at this
          simpa [upB] using this
        have e2 : r = r' := canon ha'.2 hr hr' fun ρ => by
          have := k (upB ρ x true)
          rw [val_node, val_node, hl.val_up hx, hr.val_up hx, hl'.val_up hx, hr'.val_up hx] at this
          simpa [upB] using this
        rw [e1, e2]

/-! ### numbers for diagrams -/
abbrev Nd := Int × Nat × Nat
inductive Den (ns : List Nd) : Nat → Bt → Prop
  | zero : Den ns 0 (.leaf false)
  | one : Den ns 1 (.leaf true)
  | node {i a b : Nat} {e : Int} {l r : Bt} : ns[i]? = some (e, a, b) → Den ns a l → Den ns b r → Den ns (i + 2) (.node e l r)
theorem Den.ext {ns : List Nd} {c : Nat} {t : Bt} (h : Den ns c t) (more : List Nd) : Den (ns ++ more) c t := by
  induction h with
  | zero => exact .zero
  | one => exact .one
  | @node i a b e l r hn _ _ ih1 ih2 =>
    refine .node ?_ ih1 ih2
    rw [List.getElem?_append_left (List.getElem?_eq_some_iff.mp hn).1]
    exact hn
theorem Den.fn {ns : List Nd} {c : Nat} {t : Bt} (h : Den ns c t) : ∀ {u : Bt}, Den ns c u → t = u := by
  induction h with
  | zero => intro u k; cases k; rfl
  | one => intro u k; cases k; rfl
  | node hn _ _ ih1 ih2 =>
    intro u k
    cases k with
    | node hn' a b =>
      rw [hn] at hn'
      cases hn'
      rw [ih1 a, ih2 b]
theorem Den.inj {ns : List Nd} (nd : ns.Nodup) {c : Nat} {t : Bt} (h : Den ns c t) : ∀ {d : Nat}, Den ns d t → c = d := by
  induction h with
  | zero => intro d k; cases k; rfl
  | one => intro d k; cases k; rfl
  | @node i a b e l r hn _ _ ih1 ih2 =>
    intro d k
    cases k with
    | @node j a' b' _ _ _ hn' h1 h2 =>
      have e1 := ih1 h1
      have e2 := ih2 h2
      subst e1 e2
      obtain ⟨hi, ei⟩ := List.getElem?_eq_some_iff.mp hn
      obtain ⟨hj, ej⟩ := List.getElem?_eq_some_iff.mp hn'
      have := (List.getElem_inj nd).mp (ei.trans ej.symm)
      rw [this]
theorem Den.lt {ns : List Nd} {c : Nat} {t : Bt} (h : Den ns c t) : c < ns.length + 2 := by
  cases h with
  | zero => omega
  | one => omega
  | node hn _ _ => have := (List.getElem?_eq_some_iff.mp hn).1; omega
/-- what a form says of two truths: and, or, differ -/
def opB (o : Nat) (a b : Bool) : Bool := if o = 0 then a && b else if o = 1 then a || b else a != b
theorem opB_comm (o : Nat) (a b : Bool) : opB o a b = opB o b a := by unfold opB; cases a <;> cases b <;> simp
abbrev Mm := (Nat × Nat × Nat) × Nat
/-- a store -/
structure Bd where
  ns : List Nd
  mm : List Mm
structure Good (E : List Int) (st : Bd) : Prop where
  asc : Asc E
  den : ∀ c, c < st.ns.length + 2 → ∃ t, Den st.ns c t ∧ Wt E t
  nd : st.ns.Nodup
  mem : ∀ q ∈ st.mm, q.1.1 < 3 ∧ q.1.2.1 ≤ q.1.2.2 ∧ ∃ t1 t2 t, Den st.ns q.1.2.1 t1 ∧ Den st.ns q.1.2.2 t2 ∧ Den st.ns q.2 t ∧ Wt E t ∧ (∀ ρ, t.val ρ = opB q.1.1 (t1.val ρ) (t2.val ρ))
/-- two diagrams put together -/
theorem comb_ex (o : Nat) : ∀ {E : List Int} {t u : Bt}, Wt E t → Wt E u → ∃ v, Wt E v ∧ ∀ ρ, v.val ρ = opB o (t.val ρ) (u.val ρ) := by
  have mk : ∀ {E : List Int} {x : Int} {l r : Bt}, Wt E l → Wt E r → ∃ v, Wt (x :: E) v ∧ ∀ ρ, v.val ρ = if ρ x then r.val ρ else l.val ρ := fun {E x l r} hl hr => by
    by_cases e : l = r
    · subst e
      exact ⟨l, .skip hl, fun ρ => by split <;> rfl⟩
    · exact ⟨.node x l r, .node hl hr e, fun ρ => rfl⟩
  intro E
  induction E with
  | nil =>
    intro t u h1 h2
    cases h1 with
    | @leaf _ a =>
      cases h2 with
      | @leaf _ b => exact ⟨.leaf (opB o a b), .leaf, fun _ => rfl⟩
  | cons x E ih =>
    intro t u h1 h2
    have split : ∀ {v : Bt}, Wt (x :: E) v → ∃ l r, Wt E l ∧ Wt E r ∧ ∀ ρ, v.val ρ = if ρ x then r.val ρ else l.val ρ := fun {v} h => by
      cases h with
      | leaf => exact ⟨_, _, .leaf, .leaf, fun ρ => by split <;> rfl⟩
      | skip h => exact ⟨_, _, h, h, fun ρ => by split <;> rfl⟩
      | node a b _ => exact ⟨_, _, a, b, fun ρ => rfl⟩
    obtain ⟨l1, r1, a1, b1, e1⟩ := split h1
    obtain ⟨l2, r2, a2, b2, e2⟩ := split h2
    obtain ⟨l, hl, el⟩ := ih a1 a2
    obtain ⟨r, hr, er⟩ := ih b1 b2
    obtain ⟨v, hv, ev⟩ := mk (x := x) hl hr
    refine ⟨v, hv, fun ρ => ?_⟩
    rw [ev, e1, e2, el, er]
    split <;> rfl
theorem Den.node_inv {ns : List Nd} {c : Nat} {e : Int} {l r : Bt} (h : Den ns c (.node e l r)) : ∃ i a b, c = i + 2 ∧ ns[i]? = some (e, a, b) ∧ Den ns a l ∧ Den ns b r := by
  cases h with
  | node h1 h2 h3 => exact ⟨_, _, _, rfl, h1, h2, h3⟩
theorem Den.leaf_inv {ns : List Nd} {c : Nat} {b : Bool} (h : Den ns c (.leaf b)) : c = if b then 1 else 0 := by
  cases h <;> rfl
theorem Den.zero_inv {ns : List Nd} {t : Bt} (h : Den ns 0 t) : t = .leaf false := by cases h; rfl
theorem Den.one_inv {ns : List Nd} {t : Bt} (h : Den ns 1 t) : t = .leaf true := by cases h; rfl
theorem Den.two_inv {ns : List Nd} {i : Nat} {t : Bt} (h : Den ns (i + 2) t) : ∃ e a b l r, t = .node e l r ∧ ns[i]? = some (e, a, b) ∧ Den ns a l ∧ Den ns b r := by
  cases h with
  | node h1 h2 h3 => exact ⟨_, _, _, _, _, rfl, h1, h2, h3⟩
/-- a later store -/
def Bd.Le (st st' : Bd) : Prop := ∃ more, st'.ns = st.ns ++ more
theorem Bd.Le.refl (st : Bd) : st.Le st := ⟨[], by simp⟩
theorem Bd.Le.trans {a b c : Bd} (h : a.Le b) (k : b.Le c) : a.Le c := by
  obtain ⟨m, e⟩ := h
  obtain ⟨n, f⟩ := k
  exact ⟨m ++ n, by rw [f, e, List.append_assoc]⟩
theorem Bd.Le.den {st st' : Bd} (h : st.Le st') {c : Nat} {t : Bt} (d : Den st.ns c t) : Den st'.ns c t := by
  obtain ⟨m, e⟩ := h
  rw [e]; exact d.ext m
theorem Bd.Le.len {st st' : Bd} (h : st.Le st') : st.ns.length ≤ st'.ns.length := by
  obtain ⟨m, e⟩ := h
  rw [e]; simp
/-- what make gives -/
def Bd.mk' (st : Bd) (x : Int) (a b : Nat) : Nat × Bd :=
  if a = b then (a, st) else match st.ns.findIdx? (fun q => decide (q = (x, a, b))) with
    | some i => (i + 2, st)
    | none => (st.ns.length + 2, { st with ns := st.ns ++ [(x, a, b)] })
theorem Good.make {E P E' : List Int} {st : Bd} (g : Good E st) {x : Int} (hE : E = P ++ (x :: E')) {a b : Nat} {l r : Bt} (ha : Den st.ns a l) (hb : Den st.ns b r) (hl : Wt E' l) (hr : Wt E' r) :
    Good E (st.mk' x a b).2 ∧ st.Le (st.mk' x a b).2 ∧ (st.mk' x a b).2.mm = st.mm ∧ (st.mk' x a b).2.ns.length ≤ st.ns.length + 1 ∧ ∃ t, Den (st.mk' x a b).2.ns (st.mk' x a b).1 t ∧ Wt (x :: E') t ∧ ∀ ρ, t.val ρ = if ρ x then r.val ρ else l.val ρ := by
  unfold Bd.mk'
  by_cases e : a = b
  · subst e
    rw [if_pos rfl]
    have : l = r := ha.fn hb
    subst this
    exact ⟨g, .refl _, rfl, Nat.le_succ _, l, ha, .skip hl, fun ρ => by split <;> rfl⟩
  · rw [if_neg e]
    have hne : l ≠ r := fun z => e (ha.inj g.nd (by rw [z]; exact hb))
    cases hf : st.ns.findIdx? (fun q => decide (q = (x, a, b))) with
    | some i =>
      obtain ⟨hi, h1, _⟩ := List.findIdx?_eq_some_iff_getElem.mp hf
      have h1 := of_decide_eq_true h1
      exact ⟨g, .refl _, rfl, Nat.le_succ _, .node x l r, .node (by rw [List.getElem?_eq_getElem hi, h1]) ha hb, .node hl hr hne, fun ρ => rfl⟩
    | none =>
      have hn : (x, a, b) ∉ st.ns := fun z => by
        have := List.findIdx?_eq_none_iff.mp hf _ z
        simp at this
      have hd : Den (st.ns ++ [(x, a, b)]) (st.ns.length + 2) (.node x l r) := .node (by simp) (ha.ext _) (hb.ext _)
      have hw : Wt (x :: E') (.node x l r) := .node hl hr hne
      refine ⟨⟨g.asc, fun c hc => ?_, ?_, fun q hq => ?_⟩, ⟨_, rfl⟩, rfl, by simp, .node x l r, hd, hw, fun ρ => rfl⟩
      · simp at hc
        by_cases h : c < st.ns.length + 2
        · obtain ⟨t, h1, h2⟩ := g.den c h
          exact ⟨t, h1.ext _, h2⟩
        · have : c = st.ns.length + 2 := by omega
          subst this
          exact ⟨_, hd, by rw [hE]; exact hw.app P⟩
      · show (st.ns ++ [(x, a, b)]).Nodup
        rw [List.nodup_append]
        exact ⟨g.nd, by simp, fun y hy z hz => by rw [List.mem_singleton.mp hz]; exact fun w => hn (by rw [← w]; exact hy)⟩
      · obtain ⟨m1, m2, t1, t2, t, d1, d2, d3, w, v⟩ := g.mem q hq
        exact ⟨m1, m2, t1, t2, t, d1.ext _, d2.ext _, d3.ext _, w, v⟩
/-- one more result -/
theorem Good.memo {E : List Int} {st : Bd} (g : Good E st) {o a b c : Nat} (ho : o < 3) (hab : a ≤ b) {t1 t2 t : Bt} (d1 : Den st.ns a t1) (d2 : Den st.ns b t2) (d3 : Den st.ns c t) (w : Wt E t) (v : ∀ ρ, t.val ρ = opB o (t1.val ρ) (t2.val ρ)) : Good E { st with mm := st.mm ++ [((o, a, b), c)] } :=
  ⟨g.asc, g.den, g.nd, fun q hq => by
    rcases List.mem_append.mp hq with h | h
    · exact g.mem q h
    · rw [List.mem_singleton.mp h]
      exact ⟨ho, hab, t1, t2, t, d1, d2, d3, w, v⟩⟩
/-- what is known stands at its level -/
theorem Good.level {E P E' : List Int} {st : Bd} (g : Good E st) (hE : E = P ++ E') {o : Nat} {t1 t2 t : Bt} (h1 : Wt E' t1) (h2 : Wt E' t2) (w : Wt E t) (v : ∀ ρ, t.val ρ = opB o (t1.val ρ) (t2.val ρ)) : Wt E' t := by
  obtain ⟨u, hu, eu⟩ := comb_ex o h1 h2
  have : t = u := Wt.canon g.asc w (by rw [hE]; exact hu.app P) fun ρ => by rw [v, eu]
  rw [this]; exact hu
end Z
end

section
set_option maxHeartbeats 2000000
set_option maxRecDepth 10000
/-! B2: the class Diagrams, run. -/
namespace Z
namespace BD
def b155 : List Z.St := [.ifs (.or (.cmp (.eq) (.var 0) (.glob 107)) (.cmp (.eq) (.var 1) (.glob 107))) [.ret (.glob 107)] [], .ifs (.cmp (.eq) (.var 0) (.glob 108)) [.ret (.var 1)] [], .ret (.ite (.or (.cmp (.eq) (.var 1) (.glob 108)) (.cmp (.eq) (.var 0) (.var 1))) (.var 0) (.con (.non)))]
def d155 : Df := { slots := 2, params := 2, body := b155, keep := false, alone := true, init := false }
def b156 : List Z.St := [.ifs (.or (.cmp (.eq) (.var 0) (.glob 108)) (.cmp (.eq) (.var 1) (.glob 108))) [.ret (.glob 108)] [], .ifs (.cmp (.eq) (.var 0) (.glob 107)) [.ret (.var 1)] [], .ret (.ite (.or (.cmp (.eq) (.var 1) (.glob 107)) (.cmp (.eq) (.var 0) (.var 1))) (.var 0) (.con (.non)))]
def d156 : Df := { slots := 2, params := 2, body := b156, keep := false, alone := true, init := false }
def b157 : List Z.St := [.ifs (.cmp (.eq) (.var 0) (.var 1)) [.ret (.glob 107)] [], .ifs (.cmp (.eq) (.var 0) (.glob 107)) [.ret (.var 1)] [], .ret (.ite (.cmp (.eq) (.var 1) (.glob 107)) (.var 0) (.con (.non)))]
def d157 : Df := { slots := 2, params := 2, body := b157, keep := false, alone := true, init := false }
def b158 : List Z.St := [.fld (.var 0) 3 [1] (.lst true [.con (.non), .con (.non)]), .fld (.var 0) 4 [1] (.dct true true []), .fld (.var 0) 5 [1] (.dct true true [])]
def d158 : Df := { slots := 1, params := 1, body := b158, keep := true, alone := false, init := true }
def b159 : List Z.St := [.ifs (.cmp (.eq) (.var 2) (.var 3)) [.ret (.var 2)] [], .asg (.var 4) (.tup [.var 1, .var 2, .var 3]), .ifs (.cmp (.nmem) (.var 4) (.fld (.var 0) 4 [1])) [.sub (.fld (.var 0) 4 [1]) (.var 4) (.bf (.len) false [.fld (.var 0) 3 [1]]), .expr (.bm (.append) (.fld (.var 0) 3 [1]) [.var 4])] [], .ret (.ix (.fld (.var 0) 4 [1]) (.var 4))]
def d159 : Df := { slots := 5, params := 4, body := b159, keep := true, alone := false, init := false }
def b160 : List Z.St := [.ret (.meth (.var 0) [(1, 159)] [.var 1, .glob 107, .glob 108])]
def d160 : Df := { slots := 2, params := 2, body := b160, keep := true, alone := false, init := false }
def b162 : List Z.St := [.asg (.var 4) (.ix (.glob 109) (.var 1)), .asg (.var 5) (.callv 4 [.var 2, .var 3]), .ifs (.cmp (.isn) (.var 5) (.con (.non))) [.ret (.var 5)] [], .asg (.var 6) (.tup [.var 1, .bf (.min) false [.var 2, .var 3], .bf (.max) false [.var 2, .var 3]]), .ifs (.cmp (.nmem) (.var 6) (.fld (.var 0) 5 [1])) [.sub (.fld (.var 0) 5 [1]) (.var 6) (.meth (.var 0) [(1, 163)] [.var 1, .var 2, .var 3])] [], .ret (.ix (.fld (.var 0) 5 [1]) (.var 6))]
def d162 : Df := { slots := 7, params := 4, body := b162, keep := true, alone := false, init := false }
def b163 : List Z.St := [.asg (.var 4) (.ix (.fld (.var 0) 3 [1]) (.var 2)), .asg (.var 5) (.ite (.cmp (.gt) (.var 3) (.con (.int 1))) (.ix (.fld (.var 0) 3 [1]) (.var 3)) (.con (.non))), .ifs (.or (.cmp (.is) (.var 4) (.con (.non))) (.and (.cmp (.isn) (.var 5) (.con (.non))) (.cmp (.lt) (.ix (.var 5) (.con (.int 0))) (.ix (.var 4) (.con (.int 0)))))) [.ret (.meth (.var 0) [(1, 163)] [.var 1, .var 3, .var 2])] [], .ifs (.or (.cmp (.is) (.var 5) (.con (.non))) (.cmp (.lt) (.ix (.var 4) (.con (.int 0))) (.ix (.var 5) (.con (.int 0))))) [.asg (.var 5) (.tup [.ix (.var 4) (.con (.int 0)), .var 3, .var 3])] [], .asg (.var 6) (.meth (.var 0) [(1, 162)] [.var 1, .ix (.var 4) (.con (.int 1)), .ix (.var 5) (.con (.int 1))]), .ret (.meth (.var 0) [(1, 159)] [.ix (.var 4) (.con (.int 0)), .var 6, .meth (.var 0) [(1, 162)] [.var 1, .ix (.var 4) (.con (.int 2)), .ix (.var 5) (.con (.int 2))]])]
def d163 : Df := { slots := 7, params := 4, body := b163, keep := true, alone := false, init := false }
def b164 : List Z.St := [.ret (.meth (.var 0) [(1, 162)] [.con (.str [97, 110, 100]), .var 1, .var 2])]
def d164 : Df := { slots := 3, params := 3, body := b164, keep := true, alone := false, init := false }
def b165 : List Z.St := [.ret (.meth (.var 0) [(1, 162)] [.con (.str [111, 114]), .var 1, .var 2])]
def d165 : Df := { slots := 3, params := 3, body := b165, keep := true, alone := false, init := false }
def b166 : List Z.St := [.ret (.meth (.var 0) [(1, 162)] [.con (.str [100, 105, 102, 102, 101, 114]), .var 1, .var 2])]
def d166 : Df := { slots := 3, params := 3, body := b166, keep := true, alone := false, init := false }
def b167 : List Z.St := [.ret (.meth (.var 0) [(1, 166)] [.var 1, .glob 108])]
def d167 : Df := { slots := 2, params := 2, body := b167, keep := true, alone := false, init := false }
def b170 : List Z.St := [.whl (.cmp (.gt) (.var 1) (.glob 108)) [.asg (.tup [.var 3, .var 4, .var 5]) (.ix (.fld (.var 0) 3 [1]) (.var 1)), .asg (.var 1) (.ite (.cmp (.mem) (.var 3) (.var 2)) (.var 5) (.var 4))], .ret (.cmp (.eq) (.var 1) (.glob 108))]
def d170 : Df := { slots := 6, params := 3, body := b170, keep := true, alone := false, init := false }
def leaves : D := .wd [[97, 110, 100], [111, 114], [100, 105, 102, 102, 101, 114]] [.fn 155, .fn 156, .fn 157]
end BD
open BD
/-- the class stands in the law -/
structure BG (G : Gm) : Prop where
  c0 : G.con 107 = .int 0
  c1 : G.con 108 = .int 1
  cl : G.con 109 = leaves
  f155 : G.defs 155 = some d155
  f156 : G.defs 156 = some d156
  f157 : G.defs 157 = some d157
  f158 : G.defs 158 = some d158
  f159 : G.defs 159 = some d159
  f160 : G.defs 160 = some d160
  f162 : G.defs 162 = some d162
  f163 : G.defs 163 = some d163
  f164 : G.defs 164 = some d164
  f165 : G.defs 165 = some d165
  f166 : G.defs 166 = some d166
  f167 : G.defs 167 = some d167
def nodeD (x : Nd) : D := .tup [.int x.1, .int x.2.1, .int x.2.2]
def nodesV (ns : List Nd) : List Vl := .d .non :: .d .non :: ns.map fun x => .d (nodeD x)
def numsF : Nat → List Nd → List (D × Vl)
  | _, [] => []
  | i, x :: ns => (nodeD x, .d (.int i)) :: numsF (i + 1) ns
abbrev numsV (ns : List Nd) : List (D × Vl) := numsF 2 ns
def opT : Nat → Tx
  | 0 => [97, 110, 100]
  | 1 => [111, 114]
  | _ => [100, 105, 102, 102, 101, 114]
def keyM (q : Nat × Nat × Nat) : D := .tup [.str (opT q.1), .int q.2.1, .int q.2.2]
def memoV (mm : List Mm) : List (D × Vl) := mm.map fun q => (keyM q.1, .d (.int q.2))
/-- the store's cells -/
structure DAt (S : Sto) (s n m r : Nat) (st : Bd) : Prop where
  hs : S[s]? = some (.ins 1 [(3, .p n), (4, .p m), (5, .p r)])
  hn : S[n]? = some (.lst (nodesV st.ns))
  hm : S[m]? = some (.dct true (numsV st.ns))
  hr : S[r]? = some (.dct true (memoV st.mm))
  ne : m ≠ r
/-- all other cells stay -/
structure Fr (S S' : Sto) (n m r : Nat) : Prop where
  len : S.length ≤ S'.length
  at_ : ∀ i, i < S.length → i ≠ n → i ≠ m → i ≠ r → S'[i]? = S[i]?
theorem Fr.refl (S : Sto) (n m r : Nat) : Fr S S n m r := ⟨Nat.le_refl _, fun _ _ _ _ _ => rfl⟩
theorem Fr.trans {S S1 S2 : Sto} {n m r : Nat} (a : Fr S S1 n m r) (b : Fr S1 S2 n m r) : Fr S S2 n m r :=
  ⟨Nat.le_trans a.len b.len, fun i h h1 h2 h3 => (b.at_ i (Nat.lt_of_lt_of_le h a.len) h1 h2 h3).trans (a.at_ i h h1 h2 h3)⟩
theorem eqv_node (x y : Nd) : eqv (nodeD x) (nodeD y) = decide (x = y) := by
  obtain ⟨a, b, c⟩ := x
  obtain ⟨d, e, f⟩ := y
  simp only [nodeD, eqv_tup_cons, eqv_int, eqv_tup_nil, Bool.and_true]
  by_cases h1 : a = d <;> by_cases h2 : b = e <;> by_cases h3 : c = f <;> simp [h1, h2, h3] <;> omega
theorem find_nums (x : Nd) : ∀ (ns : List Nd) (i : Nat), kvFind (numsF i ns) (nodeD x) = (ns.findIdx? fun q => decide (q = x)).map fun j => Vl.d (.int ((i + j : Nat) : Int))
  | [], i => by simp [numsF, kvFind]
  | y :: ns, i => by
    have ih := find_nums x ns (i + 1)
    unfold kvFind at ih ⊢
    simp only [numsF, List.find?_cons, eqv_node, List.findIdx?_cons]
    by_cases e : y = x
    · simp [e]
    · simp only [e, decide_false]
      rw [ih]
      cases ns.findIdx? fun q => decide (q = x) with
      | none => simp
      | some j => simp; omega
theorem nums_append (x : Nd) : ∀ (ns : List Nd) (i : Nat), numsF i (ns ++ [x]) = numsF i ns ++ [(nodeD x, .d (.int ((i + ns.length : Nat) : Int)))]
  | [], i => by simp [numsF]
  | y :: ns, i => by
    simp only [List.cons_append, numsF, List.length_cons]
    rw [nums_append x ns (i + 1)]
    have : i + 1 + ns.length = i + (ns.length + 1) := by omega
    rw [this]
theorem nums_len : ∀ (ns : List Nd) (i : Nat), (numsF i ns).length = ns.length
  | [], _ => rfl
  | _ :: ns, i => by simp [numsF, nums_len ns (i + 1)]
theorem put_new {kvs : List (D × Vl)} {k : D} {v : Vl} (h : kvFind kvs k = none) : kvPut kvs k v = kvs ++ [(k, v)] := by
  unfold kvPut
  have : (kvs.any fun kv => eqv kv.1 k) = false := by
    unfold kvFind at h
    simp only [Option.map_eq_none_iff, List.find?_eq_none] at h
    simp only [List.any_eq_false]
    exact h
  rw [this]
  simp
theorem key_node (x : Nd) : keyOk true (nodeD x) = true := by simp [nodeD, keyOk, flatKey]
theorem find_put {kvs : List (D × Vl)} {k : D} {v : Vl} (h : kvFind kvs k = none) (hk : eqv k k = true) : kvFind (kvs ++ [(k, v)]) k = some v := by
  unfold kvFind at h ⊢
  rw [List.find?_append]
  simp only [Option.map_eq_none_iff] at h
  rw [h]
  simp [hk]
section
variable {G : Gm} {S : Sto} {s n m r : Nat} {st : Bd}
theorem DAt.ne2 (h : DAt S s n m r st) : s ≠ n ∧ s ≠ m ∧ s ≠ r ∧ n ≠ m ∧ n ≠ r := by
  refine ⟨fun z => ?_, fun z => ?_, fun z => ?_, fun z => ?_, fun z => ?_⟩
  · have := h.hs; rw [z, h.hn] at this; cases this
  · have := h.hs; rw [z, h.hm] at this; cases this
  · have := h.hs; rw [z, h.hr] at this; cases this
  · have := h.hn; rw [z, h.hm] at this; cases this
  · have := h.hn; rw [z, h.hr] at this; cases this
theorem lt_of_get {S : Sto} {i : Nat} {c : Cell} (h : S[i]? = some c) : i < S.length := (List.getElem?_eq_some_iff.mp h).1
theorem make_run (g : BG G) (h : DAt S s n m r st) (k : Nat) (x : Int) (a b : Nat) (hl : st.ns.length < 16000000) :
    ∃ S', run G (k + 1) 159 [.p s, .d (.int x), .d (.int a), .d (.int b)] S = .ok (.d (.int ((st.mk' x a b).1 : Nat))) S' ∧ DAt S' s n m r (st.mk' x a b).2 ∧ Fr S S' n m r := by
  rw [run_keep (d := d159) g.f159 rfl rfl]
  have e1 : (D.tup [.int x, .int a, .int b]) = nodeD (x, a, b) := rfl
  have hfind := find_nums (x, a, b) st.ns 2
  have hk := key_node (x, a, b)
  have hs := h.hs
  have hn := h.hn
  have hm := h.hm
  obtain ⟨q1, q2, q3, q4, q5⟩ := h.ne2
  have ln := lt_of_get hn
  have lm := lt_of_get hm
  by_cases hab : a = b
  · subst hab
    refine ⟨S, ?_, ?_, ?_⟩
    · simp [d159, b159, Bd.mk']
    · simp [Bd.mk']; exact h
    · exact Fr.refl _ _ _ _
  · have hab' : ¬ ((a : Int) = (b : Int)) := by omega
    cases hf : st.ns.findIdx? (fun q => decide (q = (x, a, b))) with
    | some i =>
      rw [hf] at hfind
      refine ⟨S, ?_, ?_, Fr.refl _ _ _ _⟩
      · simp [d159, b159, Bd.mk', hab, hab', hf, hs, hm, cMem_dct hm hk, e1, hfind, hk]
        omega
      · simp [Bd.mk', hab, hf]; exact h
    | none =>
      rw [hf] at hfind
      have hput := put_new (v := .d (.int ((st.ns.length : Int) + 2))) hfind
      have hfp := find_put (v := .d (.int ((st.ns.length : Int) + 2))) hfind (eqv_refl _)
      have hz : (numsV st.ns).length < 16777216 := by rw [nums_len]; omega
      have hz2 : st.ns.length + 2 < 16777216 := by omega
      have hz3 : (nodesV st.ns).length = st.ns.length + 2 := by simp [nodesV]
      have g1 : ∀ c : Cell, (S.set m c)[s]? = S[s]? := fun c => List.getElem?_set_ne q2.symm
      have g2 : ∀ c : Cell, (S.set m c)[n]? = S[n]? := fun c => List.getElem?_set_ne q4.symm
      have g3 : ∀ c : Cell, (S.set m c)[m]? = some c := fun c => List.getElem?_set_self lm
      have g4 : ∀ c d : Cell, ((S.set m c).set n d)[s]? = S[s]? := fun c d => (List.getElem?_set_ne q1.symm).trans (g1 c)
      have g5 : ∀ c d : Cell, ((S.set m c).set n d)[m]? = some c := fun c d => (List.getElem?_set_ne q4).trans (g3 c)
      have g6 : ∀ c d : Cell, ((S.set m c).set n d)[n]? = some d := fun c d => List.getElem?_set_self (by rw [List.length_set]; exact ln)
      have g7 : ∀ c d : Cell, ((S.set m c).set n d)[r]? = S[r]? := fun c d => (List.getElem?_set_ne q5).trans (List.getElem?_set_ne h.ne)
      refine ⟨(S.set m (.dct true (kvPut (numsV st.ns) (nodeD (x, a, b)) (.d (.int ((st.ns.length : Int) + 2)))))).set n (.lst (nodesV st.ns ++ [.d (nodeD (x, a, b))])), ?_, ?_, ?_⟩
      · simp [d159, b159, Bd.mk', hab, hab', hf, hs, hm, hn, cMem_dct hm hk, e1, hfind, hk, setItem_dct hm, hz, hz2, hz3, hput, hfp, bLen, seqOf, g1, g2, g3, g4, g5, mAppend, listOf]
      · have e2 : (st.mk' x a b).2 = { st with ns := st.ns ++ [(x, a, b)] } := by simp [Bd.mk', hab, hf]
        rw [e2]
        refine ⟨by rw [g4]; exact hs, by rw [g6]; simp [nodesV], ?_, by rw [g7]; exact h.hr, h.ne⟩
        rw [g5, hput]
        show _ = some (Cell.dct true (numsV (st.ns ++ [(x, a, b)])))
        rw [numsV, nums_append]
        have : (((2 + st.ns.length : Nat)) : Int) = (st.ns.length : Int) + 2 := by omega
        rw [this]
      · exact ⟨by simp, fun i hi h1 h2 h3 => by rw [List.getElem?_set_ne (Ne.symm h1), List.getElem?_set_ne (Ne.symm h2)]⟩
def leafO (o a b : Nat) : Option Nat :=
  if o = 0 then (if a = 0 ∨ b = 0 then some 0 else if a = 1 then some b else if b = 1 ∨ a = b then some a else none)
  else if o = 1 then (if a = 1 ∨ b = 1 then some 1 else if a = 0 then some b else if b = 0 ∨ a = b then some a else none)
  else (if a = b then some 0 else if a = 0 then some b else if b = 0 then some a else none)
def optD : Option Nat → D
  | none => .non
  | some c => .int c
theorem leaf_run (g : BG G) (k o a b : Nat) (ho : o < 3) : run G (k + 1) (155 + o) [.d (.int a), .d (.int b)] S = .ok (.d (optD (leafO o a b))) S := by
  have h : o = 0 ∨ o = 1 ∨ o = 2 := by omega
  rcases h with rfl | rfl | rfl
  · rw [run_alone (d := d155) g.f155 rfl rfl rfl]
    have c0 := g.c0
    have c1 := g.c1
    by_cases h1 : a = 0
    · subst h1; simp [d155, b155, leafO, c0, optD]
    by_cases h2 : b = 0
    · subst h2
      have : ¬ ((a : Int) = 0) := by omega
      simp [d155, b155, leafO, c0, optD, this, h1]
    have h1' : ¬ ((a : Int) = 0) := by omega
    have h2' : ¬ ((b : Int) = 0) := by omega
    by_cases h3 : a = 1
    · subst h3; simp [d155, b155, leafO, c0, c1, optD, h1', h2', h2]
    have h3' : ¬ ((a : Int) = 1) := by omega
    by_cases h4 : b = 1
    · subst h4; simp [d155, b155, leafO, c0, c1, optD, h1', h1, h3', h3]
    have h4' : ¬ ((b : Int) = 1) := by omega
    by_cases h5 : a = b
    · subst h5; simp [d155, b155, leafO, c0, c1, optD, h1', h1, h3', h3]
    have h5' : ¬ ((a : Int) = (b : Int)) := by omega
    simp [d155, b155, leafO, c0, c1, optD, h1, h2, h3, h4, h5, h1', h2', h3', h4', h5']
  · rw [run_alone (d := d156) g.f156 rfl rfl rfl]
    have c0 := g.c0
    have c1 := g.c1
    by_cases h1 : a = 1
    · subst h1; simp [d156, b156, leafO, c1, optD]
    by_cases h2 : b = 1
    · subst h2
      have : ¬ ((a : Int) = 1) := by omega
      simp [d156, b156, leafO, c1, optD, this, h1]
    have h1' : ¬ ((a : Int) = 1) := by omega
    have h2' : ¬ ((b : Int) = 1) := by omega
    by_cases h3 : a = 0
    · subst h3; simp [d156, b156, leafO, c0, c1, optD, h1', h2', h2]
    have h3' : ¬ ((a : Int) = 0) := by omega
    by_cases h4 : b = 0
    · subst h4; simp [d156, b156, leafO, c0, c1, optD, h1', h1, h3', h3]
    have h4' : ¬ ((b : Int) = 0) := by omega
    by_cases h5 : a = b
    · subst h5; simp [d156, b156, leafO, c0, c1, optD, h1', h1, h3', h3]
    have h5' : ¬ ((a : Int) = (b : Int)) := by omega
    simp [d156, b156, leafO, c0, c1, optD, h1, h2, h3, h4, h5, h1', h2', h3', h4', h5']
  · rw [run_alone (d := d157) g.f157 rfl rfl rfl]
    have c0 := g.c0
    by_cases h1 : a = b
    · subst h1; simp [d157, b157, leafO, c0, optD]
    have h1' : ¬ ((a : Int) = (b : Int)) := by omega
    by_cases h3 : a = 0
    · subst h3
      have : ¬ ((0 : Int) = (b : Int)) := by omega
      simp [d157, b157, leafO, c0, optD, this, h1]
    have h3' : ¬ ((a : Int) = 0) := by omega
    by_cases h4 : b = 0
    · subst h4; simp [d157, b157, leafO, c0, optD, h1', h1, h3', h3]
    have h4' : ¬ ((b : Int) = 0) := by omega
    simp [d157, b157, leafO, c0, optD, h1, h3, h4, h1', h3', h4']
/-- a plain answer is right -/
theorem leafO_ok {ns : List Nd} {E : List Int} {o a b c : Nat} {t u : Bt} (h : leafO o a b = some c) (ha : Den ns a t) (hb : Den ns b u) (wt : Wt E t) (wu : Wt E u) : ∃ v, Den ns c v ∧ Wt E v ∧ ∀ ρ, v.val ρ = opB o (t.val ρ) (u.val ρ) := by
  have z : ∀ {x : Bt}, Den ns 0 x → x = .leaf false := Den.zero_inv
  have w : ∀ {x : Bt}, Den ns 1 x → x = .leaf true := Den.one_inv
  unfold leafO at h
  by_cases o0 : o = 0
  · rw [if_pos o0] at h
    split at h
    · rename_i q
      cases h
      refine ⟨_, .zero, .leaf, fun ρ => ?_⟩
      rcases q with rfl | rfl
      · rw [z ha]; simp [opB, o0, Bt.val]
      · rw [z hb]; simp [opB, o0, Bt.val]
    · split at h
      · rename_i q
        cases h
        subst q
        exact ⟨u, hb, wu, fun ρ => by rw [w ha]; simp [opB, o0, Bt.val]⟩
      · split at h
        · rename_i q
          cases h
          refine ⟨t, ha, wt, fun ρ => ?_⟩
          rcases q with rfl | rfl
          · rw [w hb]; simp [opB, o0, Bt.val]
          · rw [ha.fn hb]; simp [opB, o0]
        · cases h
  · rw [if_neg o0] at h
    by_cases o1 : o = 1
    · rw [if_pos o1] at h
      split at h
      · rename_i q
        cases h
        refine ⟨_, .one, .leaf, fun ρ => ?_⟩
        rcases q with rfl | rfl
        · rw [w ha]; simp [opB, o1, Bt.val]
        · rw [w hb]; simp [opB, o1, Bt.val]
      · split at h
        · rename_i q
          cases h
          subst q
          exact ⟨u, hb, wu, fun ρ => by rw [z ha]; simp [opB, o1, Bt.val]⟩
        · split at h
          · rename_i q
            cases h
            refine ⟨t, ha, wt, fun ρ => ?_⟩
            rcases q with rfl | rfl
            · rw [z hb]; simp [opB, o1, Bt.val]
            · rw [ha.fn hb]; simp [opB, o1]
          · cases h
    · rw [if_neg o1] at h
      split at h
      · rename_i q
        cases h
        subst q
        exact ⟨_, .zero, .leaf, fun ρ => by rw [ha.fn hb]; simp [opB, o0, o1, Bt.val]⟩
      · split at h
        · rename_i q
          cases h
          subst q
          exact ⟨u, hb, wu, fun ρ => by rw [z ha]; simp [opB, o0, o1, Bt.val]⟩
        · split at h
          · rename_i q
            cases h
            subst q
            exact ⟨t, ha, wt, fun ρ => by rw [z hb]; simp [opB, o0, o1, Bt.val]⟩
          · cases h
/-- without a plain answer one of both is a node -/
theorem leafO_none {o a b : Nat} (h : leafO o a b = none) : 2 ≤ a ∨ 2 ≤ b := by
  unfold leafO at h
  by_cases h1 : 2 ≤ a
  · exact .inl h1
  by_cases h2 : 2 ≤ b
  · exact .inr h2
  have h3 : a = 0 ∨ a = 1 := by omega
  have h4 : b = 0 ∨ b = 1 := by omega
  rcases h3 with rfl | rfl <;> rcases h4 with rfl | rfl <;> simp at h
  all_goals (repeat' split at h) <;> cases h
/-! ### what is known already -/
theorem opT_eq {o p : Nat} (ho : o < 3) (hp : p < 3) : (opT o = opT p) ↔ o = p := by
  have h : o = 0 ∨ o = 1 ∨ o = 2 := by omega
  have k : p = 0 ∨ p = 1 ∨ p = 2 := by omega
  rcases h with rfl | rfl | rfl <;> rcases k with rfl | rfl | rfl <;> simp [opT]
theorem eqv_key {x y : Nat × Nat × Nat} (hx : x.1 < 3) (hy : y.1 < 3) : eqv (keyM x) (keyM y) = decide (x = y) := by
  obtain ⟨a, b, c⟩ := x
  obtain ⟨d, e, f⟩ := y
  simp only [keyM, eqv_tup_cons, eqv_int, eqv_str, eqv_tup_nil, Bool.and_true, opT_eq hx hy]
  by_cases h1 : a = d <;> by_cases h2 : b = e <;> by_cases h3 : c = f <;> simp [h1, h2, h3] <;> omega
theorem find_memo {x : Nat × Nat × Nat} (hx : x.1 < 3) : ∀ {mm : List Mm}, (∀ q ∈ mm, q.1.1 < 3) → kvFind (memoV mm) (keyM x) = ((mm.find? fun q => decide (q.1 = x)).map fun q => Vl.d (.int ((q.2 : Nat) : Int)))
  | [], _ => by simp [memoV, kvFind]
  | y :: mm, h => by
    have ih := find_memo hx (mm := mm) fun q hq => h q (List.mem_cons_of_mem _ hq)
    unfold kvFind memoV at ih ⊢
    simp only [List.map_cons, List.find?_cons, eqv_key (h y (by simp)) hx]
    by_cases e : y.1 = x
    · simp [e]
    · simp only [e, decide_false]
      exact ih
theorem key_memo (x : Nat × Nat × Nat) : keyOk true (keyM x) = true := by simp [keyM, keyOk, flatKey]
theorem wd_leaf {o : Nat} (ho : o < 3) : wdFind [[97, 110, 100], [111, 114], [100, 105, 102, 102, 101, 114]] [D.fn 155, .fn 156, .fn 157] (opT o) = some (.fn (155 + o)) := by
  have h : o = 0 ∨ o = 1 ∨ o = 2 := by omega
  rcases h with rfl | rfl | rfl <;> rfl
theorem callable_leaf (g : BG G) {o : Nat} (ho : o < 3) : G.callable (155 + o) = true := by
  have h : o = 0 ∨ o = 1 ∨ o = 2 := by omega
  rcases h with rfl | rfl | rfl
  · simp [Gm.callable, g.f155, d155]
  · simp [Gm.callable, g.f156, d156]
  · simp [Gm.callable, g.f157, d157]
end
end Z
end

section
set_option maxHeartbeats 2000000
set_option maxRecDepth 10000
/-! B3: two diagrams put together, run. -/
namespace Z
open BD
section
variable {G : Gm} {S : Sto} {s n m r : Nat} {st : Bd}
theorem ix_leaf (h : DAt S s n m r st) {c : Nat} {b : Bool} (d : Den st.ns c (.leaf b)) : index (.p n) (.d (.int c)) S = .ok (.d .non) S := by
  have hn := h.hn
  have z1 : (0 : Int) < (st.ns.length : Int) + 1 + 1 := by omega
  have z2 : (1 : Int) < (st.ns.length : Int) + 1 + 1 := by omega
  cases d <;> simp [hn, nodesV, z1, z2]
theorem ix_node (h : DAt S s n m r st) {c : Nat} {x : Int} {t u : Bt} (d : Den st.ns c (.node x t u)) : ∃ a b, index (.p n) (.d (.int c)) S = .ok (.d (nodeD (x, a, b))) S ∧ Den st.ns a t ∧ Den st.ns b u ∧ 2 ≤ c := by
  obtain ⟨i, a, b, rfl, h1, h2, h3⟩ := d.node_inv
  refine ⟨a, b, ?_, h2, h3, by omega⟩
  have hi := (List.getElem?_eq_some_iff.mp h1).1
  have hn := h.hn
  have e1 : ((i + 2 : Nat) : Int) = (i : Int) + 2 := by omega
  have e2 : (0 : Int) ≤ (i : Int) + 2 := by omega
  have e3 : (i : Int) + 2 < (st.ns.length : Int) + 1 + 1 := by omega
  have e4 : ((i : Int) + 2).toNat = i + 2 := by omega
  simp [hn, nodesV, e1, e2, e3, e4, h1]
/-- what putting together leaves behind -/
structure Out (S S' : Sto) (s n m r : Nat) (E E' : List Int) (st st' : Bd) (o c : Nat) (t1 t2 : Bt) (w v : Nat) : Prop where
  at_ : DAt S' s n m r st'
  fr : Fr S S' n m r
  le : st.Le st'
  good : Good E st'
  den : ∃ t, Den st'.ns c t ∧ Wt E' t ∧ ∀ ρ, t.val ρ = opB o (t1.val ρ) (t2.val ρ)
  gn : st'.ns.length + 1 ≤ st.ns.length + w
  gm : st'.mm.length + v ≤ st.mm.length + w
abbrev pw (E : List Int) : Nat := 2 ^ E.length
theorem pw_pos (E : List Int) : 1 ≤ pw E := Nat.one_le_two_pow
theorem pw_cons (x : Int) (E : List Int) : pw (x :: E) = 2 * pw E := by unfold pw; rw [List.length_cons, Nat.pow_succ]; omega
def CombOk (G : Gm) (E E' : List Int) : Prop := ∀ (S : Sto) (s n m r : Nat) (st : Bd) (k o c1 c2 : Nat) (t1 t2 : Bt), DAt S s n m r st → Good E st → o < 3 → Den st.ns c1 t1 → Den st.ns c2 t2 → Wt E' t1 → Wt E' t2 →
  3 * E'.length + 2 ≤ k → st.ns.length + pw E' ≤ 15000000 → st.mm.length + pw E' ≤ 15000000 →
  ∃ c S' st', run G k 162 [.p s, .d (.str (opT o)), .d (.int c1), .d (.int c2)] S = .ok (.d (.int (c : Nat))) S' ∧ Out S S' s n m r E E' st st' o c t1 t2 (pw E') 1
def SplitOk (G : Gm) (E E' : List Int) : Prop := ∀ (S : Sto) (s n m r : Nat) (st : Bd) (k o c1 c2 : Nat) (t1 t2 : Bt), DAt S s n m r st → Good E st → o < 3 → Den st.ns c1 t1 → Den st.ns c2 t2 → Wt E' t1 → Wt E' t2 → 2 ≤ c1 ∨ 2 ≤ c2 →
  3 * E'.length + 1 ≤ k → st.ns.length + pw E' ≤ 15000000 → st.mm.length + pw E' ≤ 15000000 →
  ∃ c S' st', run G k 163 [.p s, .d (.str (opT o)), .d (.int c1), .d (.int c2)] S = .ok (.d (.int (c : Nat))) S' ∧ Out S S' s n m r E E' st st' o c t1 t2 (pw E') 2
theorem opB_node (o : Nat) {x : Int} {l1 r1 l2 r2 l u : Bt} (hl : ∀ ρ, l.val ρ = opB o (l1.val ρ) (l2.val ρ)) (hu : ∀ ρ, u.val ρ = opB o (r1.val ρ) (r2.val ρ)) (ρ : Int → Bool) :
    (if ρ x then u.val ρ else l.val ρ) = opB o ((Bt.node x l1 r1).val ρ) (if ρ x then r2.val ρ else l2.val ρ) := by
  rw [hl, hu, val_node]; split <;> rfl
/-- both halves put together -/
theorem halves (g : BG G) {E P E' : List Int} {x : Int} (hE : E = P ++ (x :: E')) (ih : CombOk G E E') (h : DAt S s n m r st) (hg : Good E st) {k o a1 b1 a2 b2 : Nat} (ho : o < 3) {l1 r1 l2 r2 : Bt}
    (d1 : Den st.ns a1 l1) (d2 : Den st.ns b1 r1) (d3 : Den st.ns a2 l2) (d4 : Den st.ns b2 r2) (w1 : Wt E' l1) (w2 : Wt E' r1) (w3 : Wt E' l2) (w4 : Wt E' r2)
    (hk : 3 * E'.length + 2 ≤ k + 1) (hn : st.ns.length + pw (x :: E') ≤ 15000000) (hm : st.mm.length + pw (x :: E') ≤ 15000000) :
    ∃ low S1 up S2 c S' st', run G (k + 1) 162 [.p s, .d (.str (opT o)), .d (.int a1), .d (.int a2)] S = .ok (.d (.int (low : Nat))) S1 ∧
      run G (k + 1) 162 [.p s, .d (.str (opT o)), .d (.int b1), .d (.int b2)] S1 = .ok (.d (.int (up : Nat))) S2 ∧
      run G (k + 1) 159 [.p s, .d (.int x), .d (.int low), .d (.int up)] S2 = .ok (.d (.int (c : Nat))) S' ∧
      clsC (S1[s]?) = some 1 ∧ clsC (S2[s]?) = some 1 ∧
      (DAt S' s n m r st' ∧ Fr S S' n m r ∧ st.Le st' ∧ Good E st' ∧ (∃ t, Den st'.ns c t ∧ Wt (x :: E') t ∧ ∀ ρ, t.val ρ = if ρ x then opB o (r1.val ρ) (r2.val ρ) else opB o (l1.val ρ) (l2.val ρ)) ∧ st'.ns.length + 1 ≤ st.ns.length + pw (x :: E') ∧ st'.mm.length + 2 ≤ st.mm.length + pw (x :: E')) := by
  have hp := pw_pos E'
  rw [pw_cons] at hn hm ⊢
  obtain ⟨low, S1, s1, e1, o1⟩ := ih S s n m r st (k + 1) o a1 a2 l1 l2 h hg ho d1 d3 w1 w3 hk (by omega) (by omega)
  have n1 := o1.gn
  have m1 := o1.gm
  obtain ⟨up, S2, s2, e2, o2⟩ := ih S1 s n m r s1 (k + 1) o b1 b2 r1 r2 o1.at_ o1.good ho (o1.le.den d2) (o1.le.den d4) w2 w4 hk (by omega) (by omega)
  have n2 := o2.gn
  have m2 := o2.gm
  obtain ⟨tl, dl, wl, vl⟩ := o1.den
  obtain ⟨tu, du, wu, vu⟩ := o2.den
  obtain ⟨S', e3, h3, f3⟩ := make_run g o2.at_ k x low up (by omega)
  obtain ⟨g3, le3, mm3, len3, t, dt, wt, vt⟩ := o2.good.make hE (o2.le.den dl) du wl wu
  refine ⟨low, S1, up, S2, _, S', _, e1, e2, e3, by rw [o1.at_.hs]; rfl, by rw [o2.at_.hs]; rfl, h3, (o1.fr.trans o2.fr).trans f3, (o1.le.trans o2.le).trans le3, g3, ⟨t, dt, wt, fun ρ => by rw [vt, vl, vu]⟩, by omega, by rw [mm3]; omega⟩
theorem isNone_node {x : Nd} : isNone (.d (nodeD x)) = false := rfl
theorem ixn (x : Nd) (i : Nat) (h : i < 3) : index (.d (nodeD x)) (.d (.int i)) S = .ok (.d (.int (if i = 0 then x.1 else if i = 1 then x.2.1 else x.2.2))) S := by
  have : i = 0 ∨ i = 1 ∨ i = 2 := by omega
  rcases this with rfl | rfl | rfl <;> simp [nodeD]
theorem opT_data {o : Nat} (ho : o < 3) : isData 64 (.str (opT o)) = true := by
  have h : o = 0 ∨ o = 1 ∨ o = 2 := by omega
  rcases h with rfl | rfl | rfl <;> decide
/-- the first stands at the first entry -/
theorem split_A (g : BG G) {E P E' : List Int} {x : Int} (hE : E = P ++ (x :: E')) (ih : CombOk G E E') (h : DAt S s n m r st) (hg : Good E st) {k o c1 c2 : Nat} (ho : o < 3) {l1 r1 t2 : Bt}
    (d1 : Den st.ns c1 (.node x l1 r1)) (d2 : Den st.ns c2 t2) (w1 : Wt E' l1) (w2 : Wt E' r1) (w3 : Wt (x :: E') t2) (ha : ∀ e ∈ E', x < e)
    (hk : 3 * E'.length + 3 ≤ k) (hn : st.ns.length + pw (x :: E') ≤ 15000000) (hm : st.mm.length + pw (x :: E') ≤ 15000000) :
    ∃ c S' st', run G k 163 [.p s, .d (.str (opT o)), .d (.int c1), .d (.int c2)] S = .ok (.d (.int (c : Nat))) S' ∧ Out S S' s n m r E (x :: E') st st' o c (.node x l1 r1) t2 (pw (x :: E')) 2 := by
  obtain ⟨a1, b1, i1, da, db, hc1⟩ := ix_node h d1
  obtain ⟨k, rfl⟩ : ∃ j, k = j + 2 := ⟨k - 2, by omega⟩
  have hs := h.hs
  rw [run_keep (d := d163) g.f163 rfl rfl]
  have j1 : index (.d (nodeD (x, a1, b1))) (.d (.int 0)) S = .ok (.d (.int x)) S := by have := ixn (S := S) (x, a1, b1) 0 (by decide); exact this
  have i0 : ∀ (S : Sto) (y : Int) (a b : Nat), index (.d (nodeD (y, a, b))) (.d (.int 0)) S = .ok (.d (.int y)) S := fun S y a b => ixn (S := S) (y, a, b) 0 (by decide)
  have i1' : ∀ (S : Sto) (y : Int) (a b : Nat), index (.d (nodeD (y, a, b))) (.d (.int 1)) S = .ok (.d (.int (a : Nat))) S := fun S y a b => ixn (S := S) (y, a, b) 1 (by decide)
  have i2' : ∀ (S : Sto) (y : Int) (a b : Nat), index (.d (nodeD (y, a, b))) (.d (.int 2)) S = .ok (.d (.int (b : Nat))) S := fun S y a b => ixn (S := S) (y, a, b) 2 (by decide)
  have nn : ∀ y : Nd, isNone (.d (nodeD y)) = false := fun _ => rfl
  have tp : ∀ (y : Int) (a b : Nat), (D.tup [.int y, .int a, .int b]) = nodeD (y, a, b) := fun _ _ _ => rfl
  have one : ∀ {y : Bool}, t2 = .leaf y → c2 < 2 := fun {y} e => by
    rw [e] at d2; rw [d2.leaf_inv]; split <;> omega
  by_cases hx : ∃ l2 r2, t2 = .node x l2 r2
  · obtain ⟨l2, r2, rfl⟩ := hx
    obtain ⟨a2, b2, i2, dc, dd, hc2⟩ := ix_node h d2
    have w4 : Wt E' l2 ∧ Wt E' r2 := by
      cases w3 with
      | skip w => exact absurd (ha x (w.mem rfl)) (Int.lt_irrefl x)
      | node p q _ => exact ⟨p, q⟩
    obtain ⟨lo, S1, up, S2, c, S', st', e1, e2, e3, k1, k2, oa, ofr, ole, og, ⟨t, dt, wt, vt⟩, on, om⟩ := halves (k := k) g hE ih h hg ho da db dc dd w1 w2 w4.1 w4.2 (by omega) hn hm
    refine ⟨c, S', st', ?_, ⟨oa, ofr, ole, og, ⟨t, dt, wt, fun ρ => ?_⟩, on, om⟩⟩
    · have hc2' : (1 : Int) < (c2 : Int) := by omega
      simp [-index_p, d163, b163, hs, i1, i2, i0, i1', i2', nn, tp, hc2', e1, e2, e3, k1, k2]
    · rw [vt, val_node, val_node]; split <;> rfl
  · have w4 : Wt E' t2 := by
      cases w3 with
      | leaf => exact .leaf
      | skip w => exact w
      | node p q _ => exact (hx ⟨_, _, rfl⟩).elim
    obtain ⟨lo, S1, up, S2, c, S', st', e1, e2, e3, k1, k2, oa, ofr, ole, og, ⟨t, dt, wt, vt⟩, on, om⟩ := halves (k := k) g hE ih h hg ho da db d2 d2 w1 w2 w4 w4 (by omega) hn hm
    refine ⟨c, S', st', ?_, ⟨oa, ofr, ole, og, ⟨t, dt, wt, fun ρ => ?_⟩, on, om⟩⟩
    · cases t2 with
      | leaf b =>
        have := one rfl
        have hc2' : ¬ (1 : Int) < (c2 : Int) := by omega
        simp [-index_p, d163, b163, hs, i1, i0, i1', i2', nn, tp, hc2', e1, e2, e3, k1, k2]
      | node y l2 r2 =>
        obtain ⟨a2, b2, i2, dc, dd, hc2⟩ := ix_node h d2
        have hc2' : (1 : Int) < (c2 : Int) := by omega
        have hy : x < y := ha y (w4.mem rfl)
        have hy' : ¬ y < x := by omega
        simp [-index_p, d163, b163, hs, i1, i2, i0, i1', i2', nn, tp, hc2', hy, hy', e1, e2, e3, k1, k2]
    · rw [vt, val_node]; split <;> rfl
/-- only the second stands at the first entry -/
theorem split_B (g : BG G) {E P E' : List Int} {x : Int} (hE : E = P ++ (x :: E')) (ih : CombOk G E E') (h : DAt S s n m r st) (hg : Good E st) {k o c1 c2 : Nat} (ho : o < 3) {l2 r2 t1 : Bt}
    (d1 : Den st.ns c1 t1) (d2 : Den st.ns c2 (.node x l2 r2)) (w1 : Wt E' l2) (w2 : Wt E' r2) (w3 : Wt E' t1) (ha : ∀ e ∈ E', x < e)
    (hk : 3 * E'.length + 4 ≤ k) (hn : st.ns.length + pw (x :: E') ≤ 15000000) (hm : st.mm.length + pw (x :: E') ≤ 15000000) :
    ∃ c S' st', run G k 163 [.p s, .d (.str (opT o)), .d (.int c1), .d (.int c2)] S = .ok (.d (.int (c : Nat))) S' ∧ Out S S' s n m r E (x :: E') st st' o c t1 (.node x l2 r2) (pw (x :: E')) 2 := by
  obtain ⟨k, rfl⟩ : ∃ j, k = j + 1 := ⟨k - 1, by omega⟩
  obtain ⟨c, S', st', e1, o1⟩ := split_A (k := k) g hE ih h hg ho d2 d1 w1 w2 (.skip w3) ha (by omega) hn hm
  obtain ⟨a2, b2, i2, dc, dd, hc2⟩ := ix_node h d2
  have hc2' : (1 : Int) < (c2 : Int) := by omega
  have hs := h.hs
  have i0 : ∀ (S : Sto) (y : Int) (a b : Nat), index (.d (nodeD (y, a, b))) (.d (.int 0)) S = .ok (.d (.int y)) S := fun S y a b => ixn (S := S) (y, a, b) 0 (by decide)
  have nn : ∀ y : Nd, isNone (.d (nodeD y)) = false := fun _ => rfl
  rw [run_keep (d := d163) g.f163 rfl rfl]
  refine ⟨c, S', st', ?_, ⟨o1.at_, o1.fr, o1.le, o1.good, ?_, o1.gn, o1.gm⟩⟩
  · cases t1 with
    | leaf b =>
      have i1 := ix_leaf h d1
      simp [-index_p, d163, b163, hs, i1, i2, i0, nn, hc2', e1]
    | node y l1 r1 =>
      obtain ⟨a1, b1, i1, _, _, _⟩ := ix_node h d1
      have hy : x < y := ha y (w3.mem rfl)
      simp [-index_p, d163, b163, hs, i1, i2, i0, nn, hc2', hy, e1]
  · obtain ⟨t, dt, wt, vt⟩ := o1.den
    exact ⟨t, dt, wt, fun ρ => by rw [vt, opB_comm]⟩
theorem split_step (g : BG G) {E P E' : List Int} {x : Int} (hE : E = P ++ (x :: E')) (ha : ∀ e ∈ E', x < e) (ic : CombOk G E E') (ih : SplitOk G E E') : SplitOk G E (x :: E') := by
  intro S s n m r st k o c1 c2 t1 t2 h hg ho d1 d2 w1 w2 h2 hk hn hm
  rw [List.length_cons] at hk
  have rest : Wt E' t1 → Wt (x :: E') t2 → ∃ c S' st', run G k 163 [.p s, .d (.str (opT o)), .d (.int c1), .d (.int c2)] S = .ok (.d (.int (c : Nat))) S' ∧ Out S S' s n m r E (x :: E') st st' o c t1 t2 (pw (x :: E')) 2 := fun w1 w2 => by
    have low : Wt E' t2 → ∃ c S' st', run G k 163 [.p s, .d (.str (opT o)), .d (.int c1), .d (.int c2)] S = .ok (.d (.int (c : Nat))) S' ∧ Out S S' s n m r E (x :: E') st st' o c t1 t2 (pw (x :: E')) 2 := fun w2 => by
      have hp := pw_cons x E'
      obtain ⟨c, S', st', e1, o1⟩ := ih S s n m r st k o c1 c2 t1 t2 h hg ho d1 d2 w1 w2 h2 (by omega) (by omega) (by omega)
      obtain ⟨t, dt, wt, vt⟩ := o1.den
      have gn := o1.gn
      have gm := o1.gm
      exact ⟨c, S', st', e1, ⟨o1.at_, o1.fr, o1.le, o1.good, ⟨t, dt, .skip wt, vt⟩, by omega, by omega⟩⟩
    cases w2 with
    | leaf => exact low .leaf
    | skip w => exact low w
    | node p q _ => exact split_B g hE ic h hg ho d1 d2 p q w1 ha (by omega) hn hm
  cases w1 with
  | leaf => exact rest .leaf w2
  | skip w => exact rest w w2
  | node p q _ => exact split_A g hE ic h hg ho d1 d2 p q w2 ha (by omega) hn hm
theorem split_nil (g : BG G) {E : List Int} : SplitOk G E [] := by
  intro S s n m r st k o c1 c2 t1 t2 h hg ho d1 d2 w1 w2 h2 hk hn hm
  cases w1
  cases w2
  have a := d1.leaf_inv
  have b := d2.leaf_inv
  revert a b
  split <;> split <;> intro a b <;> omega
theorem find_kvPut {kvs : List (D × Vl)} {k : D} {v : Vl} : kvFind (kvPut kvs k v) k = some v := by
  unfold kvPut
  split
  · rename_i ha
    unfold kvFind
    induction kvs with
    | nil => simp at ha
    | cons y kvs ih =>
      simp only [List.map_cons, List.find?_cons]
      by_cases e : eqv y.1 k = true
      · rw [if_pos e]; dsimp only; rw [e]; rfl
      · rw [if_neg e]
        have e' : eqv y.1 k = false := by simpa using e
        rw [e']
        dsimp only
        exact ih (by simpa [e'] using ha)
  · rename_i ha
    have : kvFind kvs k = none := by
      unfold kvFind
      simp only [Option.map_eq_none_iff, List.find?_eq_none]
      simpa using ha
    exact find_put this (eqv_refl k)
def putM (mm : List Mm) (x : Nat × Nat × Nat) (c : Nat) : List Mm := if mm.any (fun q => decide (q.1 = x)) then mm.map (fun q => if q.1 = x then (q.1, c) else q) else mm ++ [(x, c)]
theorem put_memo {x : Nat × Nat × Nat} (hx : x.1 < 3) (c : Nat) {mm : List Mm} (h : ∀ q ∈ mm, q.1.1 < 3) : kvPut (memoV mm) (keyM x) (.d (.int (c : Nat))) = memoV (putM mm x c) := by
  have e : ∀ q ∈ mm, eqv (keyM q.1) (keyM x) = decide (q.1 = x) := fun q hq => eqv_key (h q hq) hx
  have ea : ((memoV mm).any fun kv => eqv kv.1 (keyM x)) = mm.any fun q => decide (q.1 = x) := by
    unfold memoV
    rw [List.any_map]
    clear h
    induction mm with
    | nil => rfl
    | cons y mm ih =>
      simp only [List.any_cons]
      rw [ih fun q hq => e q (List.mem_cons_of_mem _ hq)]
      simp only [Function.comp, e y (by simp)]
  unfold kvPut putM
  rw [ea]
  split
  · unfold memoV
    rw [List.map_map, List.map_map]
    apply List.map_congr_left
    intro q hq
    simp only [Function.comp, e q hq]
    by_cases z : q.1 = x
    · simp [z]
    · simp [z]
  · simp [memoV]
theorem putM_len {mm : List Mm} {x : Nat × Nat × Nat} {c : Nat} : (putM mm x c).length ≤ mm.length + 1 := by
  unfold putM; split <;> simp
theorem Good.putM {E : List Int} {st : Bd} (g : Good E st) {o a b c : Nat} (ho : o < 3) (hab : a ≤ b) {t1 t2 t : Bt} (d1 : Den st.ns a t1) (d2 : Den st.ns b t2) (d3 : Den st.ns c t) (w : Wt E t) (v : ∀ ρ, t.val ρ = opB o (t1.val ρ) (t2.val ρ)) : Good E { st with mm := putM st.mm (o, a, b) c } := by
  refine ⟨g.asc, g.den, g.nd, fun q hq => ?_⟩
  have new : ((o, a, b) : Nat × Nat × Nat).1 < 3 ∧ a ≤ b ∧ ∃ t1 t2 t, Den st.ns a t1 ∧ Den st.ns b t2 ∧ Den st.ns c t ∧ Wt E t ∧ (∀ ρ, t.val ρ = opB o (t1.val ρ) (t2.val ρ)) := ⟨ho, hab, t1, t2, t, d1, d2, d3, w, v⟩
  dsimp only [Z.putM] at hq
  split at hq
  · obtain ⟨p, hp, e⟩ := List.mem_map.mp hq
    by_cases z : p.1 = (o, a, b)
    · rw [if_pos z] at e
      subst e
      dsimp only
      rw [z]
      exact new
    · rw [if_neg z] at e
      subst e
      exact g.mem p hp
  · rcases List.mem_append.mp hq with h | h
    · exact g.mem q h
    · rw [List.mem_singleton.mp h]; exact new
theorem comb_step (g : BG G) {E P E' : List Int} (hE : E = P ++ E') (ih : SplitOk G E E') : CombOk G E E' := by
  intro S s n m r st k o c1 c2 t1 t2 h hg ho d1 d2 w1 w2 hk hn hm
  obtain ⟨k, rfl⟩ : ∃ j, k = j + 2 := ⟨k - 2, by omega⟩
  have hp := pw_pos E'
  have hs := h.hs
  have hr := h.hr
  have cl := g.cl
  have wl := wd_leaf ho
  have ca := callable_leaf g ho
  have lr := leaf_run (S := S) g k o c1 c2 ho
  rw [run_keep (d := d162) g.f162 rfl rfl]
  cases hl : leafO o c1 c2 with
  | some c =>
    rw [hl] at lr
    refine ⟨c, S, st, ?_, ⟨h, .refl _ _ _ _, .refl _, hg, leafO_ok hl d1 d2 w1 w2, by omega, by omega⟩⟩
    simp [-index_p, d162, b162, cl, leaves, wl, ca, lr, optD]
  | none =>
    rw [hl] at lr
    have h2 := leafO_none hl
    obtain ⟨mn, hmn⟩ : ∃ x, x = min c1 c2 := ⟨_, rfl⟩
    obtain ⟨mx, hmx⟩ : ∃ x, x = max c1 c2 := ⟨_, rfl⟩
    have hke := key_memo (o, mn, mx)
    have e1 : (D.tup [.str (opT o), .int (mn : Nat), .int (mx : Nat)]) = keyM (o, mn, mx) := rfl
    have emin : (if c2 < c1 then (c2 : Int) else (c1 : Int)) = ((mn : Nat) : Int) := by split <;> omega
    have emax : (if c1 < c2 then (c2 : Int) else (c1 : Int)) = ((mx : Nat) : Int) := by split <;> omega
    have hfind := find_memo (x := (o, mn, mx)) ho (mm := st.mm) fun q hq => (hg.mem q hq).1
    cases hf : st.mm.find? (fun q => decide (q.1 = (o, mn, mx))) with
    | some q =>
      rw [hf] at hfind
      have hq := List.mem_of_find?_eq_some hf
      have he : q.1 = (o, mn, mx) := by have := List.find?_some hf; exact of_decide_eq_true this
      obtain ⟨q1, q2, u1, u2, u, du1, du2, du, wu, vu⟩ := hg.mem q hq
      rw [he] at du1 du2 vu
      dsimp only at du1 du2 vu
      have vv : ∀ ρ, u.val ρ = opB o (t1.val ρ) (t2.val ρ) := by
        by_cases hc : c1 ≤ c2
        · rw [show mn = c1 by omega] at du1
          rw [show mx = c2 by omega] at du2
          rw [d1.fn du1, d2.fn du2]; exact vu
        · have hc : c2 ≤ c1 := by omega
          rw [show mn = c2 by omega] at du1
          rw [show mx = c1 by omega] at du2
          rw [d1.fn du2, d2.fn du1]; intro ρ; rw [vu, opB_comm]
      refine ⟨q.2, S, st, ?_, ⟨h, .refl _ _ _ _, .refl _, hg, ⟨u, du, hg.level hE w1 w2 wu vv, vv⟩, by omega, by omega⟩⟩
      simp [-index_p, d162, b162, cl, leaves, wl, ca, lr, optD, emin, emax, e1, hs, cMem_dct hr hke, hfind]
      simp [hr, hfind, hke]
    | none =>
      rw [hf] at hfind
      obtain ⟨c, S1, s1, e2, o1⟩ := ih S s n m r st (k + 1) o c1 c2 t1 t2 h hg ho d1 d2 w1 w2 h2 (by omega) hn hm
      obtain ⟨t, dt, wt, vt⟩ := o1.den
      have gm := o1.gm
      have gn := o1.gn
      have hs1 := o1.at_.hs
      have hr1 := o1.at_.hr
      have hput := put_memo (x := (o, mn, mx)) ho c (mm := s1.mm) fun q hq => (o1.good.mem q hq).1
      have hfp := find_kvPut (kvs := memoV s1.mm) (k := keyM (o, mn, mx)) (v := .d (.int (c : Nat)))
      rw [hput] at hfp
      obtain ⟨q1, q2, q3, q4, q5⟩ := o1.at_.ne2
      have lr1 := lt_of_get hr1
      have lz : (memoV s1.mm).length < 16777216 := by unfold memoV; rw [List.length_map]; omega
      have g1 : ∀ c : Cell, (S1.set r c)[s]? = S1[s]? := fun c => List.getElem?_set_ne q3.symm
      have g3 : ∀ c : Cell, (S1.set r c)[r]? = some c := fun c => List.getElem?_set_self lr1
      have hc1 : clsC (S1[s]?) = some 1 := by rw [hs1]; rfl
      have gp := o1.good.putM (o := o) (a := mn) (b := mx) (c := c) (t := t) (t1 := if c1 ≤ c2 then t1 else t2) (t2 := if c1 ≤ c2 then t2 else t1) ho (by omega) (by
        by_cases hc : c1 ≤ c2
        · rw [if_pos hc, show mn = c1 by omega]; exact o1.le.den d1
        · rw [if_neg hc, show mn = c2 by omega]; exact o1.le.den d2) (by
        by_cases hc : c1 ≤ c2
        · rw [if_pos hc, show mx = c2 by omega]; exact o1.le.den d2
        · rw [if_neg hc, show mx = c1 by omega]; exact o1.le.den d1) dt (by rw [hE]; exact wt.app P) (fun ρ => by
        rw [vt]
        by_cases hc : c1 ≤ c2
        · rw [if_pos hc, if_pos hc]
        · rw [if_neg hc, if_neg hc, opB_comm])
      refine ⟨c, S1.set r (.dct true (memoV (Z.putM s1.mm (o, mn, mx) c))), { s1 with mm := Z.putM s1.mm (o, mn, mx) c }, ?_, ⟨⟨?_, ?_, ?_, ?_, o1.at_.ne⟩, ?_, o1.le, gp, ⟨t, dt, wt, vt⟩, gn, ?_⟩⟩
      · simp [-index_p, d162, b162, cl, leaves, wl, ca, lr, optD, emin, emax, e1, hs, cMem_dct hr hke, hfind, e2, hs1, setItem_dct hr1, hke, lz, hput, g1]
        simp [g3, hke, hfp]
      · rw [g1]; exact hs1
      · exact (List.getElem?_set_ne q5.symm).trans o1.at_.hn
      · exact (List.getElem?_set_ne o1.at_.ne.symm).trans o1.at_.hm
      · exact g3 _
      · exact ⟨by rw [List.length_set]; exact o1.fr.len, fun i hi h1 h2 h3 => by rw [List.getElem?_set_ne (Ne.symm h3)]; exact o1.fr.at_ i hi h1 h2 h3⟩
      · have := putM_len (mm := s1.mm) (x := (o, mn, mx)) (c := c)
        show (Z.putM s1.mm (o, mn, mx) c).length + 1 ≤ _
        omega
theorem both (g : BG G) : ∀ {E' E P : List Int}, E = P ++ E' → Asc E → CombOk G E E' ∧ SplitOk G E E'
  | [], E, P, hE, _ => ⟨comb_step g hE (split_nil g), split_nil g⟩
  | x :: E', E, P, hE, ha => by
    have h := both g (E' := E') (E := E) (P := P ++ [x]) (by rw [hE]; simp) ha
    have hx : ∀ e ∈ E', x < e := by
      rw [hE] at ha
      exact (List.pairwise_cons.mp (List.pairwise_append.mp ha).2.1).1
    have hs := split_step g hE hx h.1 h.2
    exact ⟨comb_step g hE hs, hs⟩
end
end Z
end

section
set_option maxHeartbeats 2000000
set_option maxRecDepth 10000
/-! B4: the laws' trees, made, built and asked. -/
namespace Z
namespace BD
def b678 : List Z.St := [.asg (.var 2) (.lst true []), .asg (.var 3) (.call 501 [.var 0, .con (.int 3)]), .fors (.var 4) (.range) [.op (.add) (.con (.int 1)) (.call 501 [.var 0, .var 1])] [.expr (.bm (.append) (.var 2) [.var 3]), .asg (.var 3) (.op (.add) (.op (.add) (.var 3) (.con (.int 1))) (.op (.mul) (.call 501 [.var 0, .con (.int 2)]) (.call 501 [.var 0, .con (.int 90)])))], .ret (.var 2)]
def d678 : Df := { slots := 5, params := 2, body := b678, keep := false, alone := false, init := false }
def b679 : List Z.St := [.asg (.var 3) (.call 501 [.var 0, .con (.int 9)]), .ifs (.or (.cmp (.eq) (.var 2) (.con (.int 0))) (.cmp (.lt) (.var 3) (.con (.int 2)))) [.ifs (.cmp (.eq) (.call 501 [.var 0, .con (.int 12)]) (.con (.int 0))) [.ret (.tup [.con (.str [99, 111, 110, 115, 116, 97, 110, 116]), .call 501 [.var 0, .con (.int 2)]])] [], .ret (.tup [.con (.str [116, 104, 101, 114, 101]), .ix (.var 1) (.call 501 [.var 0, .bf (.len) false [.var 1]])])] [], .ifs (.cmp (.eq) (.var 3) (.con (.int 2))) [.ret (.tup [.con (.str [110, 111, 116]), .call 679 [.var 0, .var 1, .op (.sub) (.var 2) (.con (.int 1))]])] [], .asg (.var 4) (.call 679 [.var 0, .var 1, .op (.sub) (.var 2) (.con (.int 1))]), .ret (.tup [.ix (.lst false [.con (.str [97, 110, 100]), .con (.str [111, 114]), .con (.str [100, 105, 102, 102, 101, 114])]) (.op (.mod) (.var 3) (.con (.int 3))), .var 4, .call 679 [.var 0, .var 1, .op (.sub) (.var 2) (.con (.int 1))]])]
def d679 : Df := { slots := 5, params := 3, body := b679, keep := true, alone := false, init := false }
def b680 : List Z.St := [.ifs (.cmp (.eq) (.ix (.var 1) (.con (.int 0))) (.con (.str [99, 111, 110, 115, 116, 97, 110, 116]))) [.ret (.ix (.var 1) (.con (.int 1)))] [], .ifs (.cmp (.eq) (.ix (.var 1) (.con (.int 0))) (.con (.str [116, 104, 101, 114, 101]))) [.ret (.meth (.var 0) [(1, 160)] [.ix (.var 1) (.con (.int 1))])] [], .asg (.var 2) (.call 680 [.var 0, .ix (.var 1) (.con (.int 1))]), .ifs (.cmp (.eq) (.ix (.var 1) (.con (.int 0))) (.con (.str [110, 111, 116]))) [.ret (.meth (.var 0) [(1, 167)] [.var 2])] [], .asg (.var 3) (.call 680 [.var 0, .ix (.var 1) (.con (.int 2))]), .ifs (.cmp (.eq) (.ix (.var 1) (.con (.int 0))) (.con (.str [97, 110, 100]))) [.ret (.meth (.var 0) [(1, 164)] [.var 2, .var 3])] [], .ret (.ite (.cmp (.eq) (.ix (.var 1) (.con (.int 0))) (.con (.str [111, 114]))) (.meth (.var 0) [(1, 165)] [.var 2, .var 3]) (.meth (.var 0) [(1, 166)] [.var 2, .var 3]))]
def d680 : Df := { slots := 4, params := 2, body := b680, keep := true, alone := false, init := false }
def b681 : List Z.St := [.ifs (.cmp (.eq) (.ix (.var 0) (.con (.int 0))) (.con (.str [99, 111, 110, 115, 116, 97, 110, 116]))) [.ret (.cmp (.eq) (.ix (.var 0) (.con (.int 1))) (.con (.int 1)))] [], .ifs (.cmp (.eq) (.ix (.var 0) (.con (.int 0))) (.con (.str [116, 104, 101, 114, 101]))) [.ret (.cmp (.mem) (.ix (.var 0) (.con (.int 1))) (.var 1))] [], .asg (.var 2) (.call 681 [.ix (.var 0) (.con (.int 1)), .var 1]), .ifs (.cmp (.eq) (.ix (.var 0) (.con (.int 0))) (.con (.str [110, 111, 116]))) [.ret (.not (.var 2))] [], .asg (.var 3) (.call 681 [.ix (.var 0) (.con (.int 2)), .var 1]), .ifs (.cmp (.eq) (.ix (.var 0) (.con (.int 0))) (.con (.str [97, 110, 100]))) [.ret (.and (.var 2) (.var 3))] [], .ret (.ite (.cmp (.eq) (.ix (.var 0) (.con (.int 0))) (.con (.str [111, 114]))) (.or (.var 2) (.var 3)) (.cmp (.ne) (.var 2) (.var 3)))]
def d681 : Df := { slots := 4, params := 2, body := b681, keep := false, alone := true, init := false }
def b682 : List Z.St := [.asg (.var 1) (.lst false [.lst false []]), .fors (.var 2) (.seq) [.var 0] [.asg (.var 1) (.op (.add) (.var 1) (.lc false (.op (.add) (.var 3) (.lst false [.var 2])) (.var 3) [3] (.seq) [.var 1] none))], .ret (.var 1)]
def d682 : Df := { slots := 4, params := 1, body := b682, keep := false, alone := true, init := false }
end BD
open BD
structure TG (G : Gm) : Prop where
  f500 : G.defs 500 = some drawD
  f501 : G.defs 501 = some nextD
  f678 : G.defs 678 = some d678
  f679 : G.defs 679 = some d679
  f680 : G.defs 680 = some d680
  f681 : G.defs 681 = some d681
  f682 : G.defs 682 = some d682
/-! ### the methods -/
section
variable {G : Gm} {S : Sto} {s n m r : Nat} {st : Bd} {E : List Int}
/-- a condition that means f -/
structure Mean (S S' : Sto) (s n m r : Nat) (E : List Int) (st st' : Bd) (c : Nat) (f : (Int → Bool) → Bool) (w : Nat) : Prop where
  at_ : DAt S' s n m r st'
  fr : Fr S S' n m r
  le : st.Le st'
  good : Good E st'
  den : ∃ t, Den st'.ns c t ∧ Wt E t ∧ ∀ ρ, t.val ρ = f ρ
  gn : st'.ns.length ≤ st.ns.length + w
  gm : st'.mm.length ≤ st.mm.length + w
/-- a number that means f in a store -/
def Is (st : Bd) (E : List Int) (c : Nat) (f : (Int → Bool) → Bool) : Prop := ∃ t, Den st.ns c t ∧ Wt E t ∧ ∀ ρ, t.val ρ = f ρ
theorem Is.le {st st' : Bd} {c : Nat} {f : (Int → Bool) → Bool} (h : Is st E c f) (l : st.Le st') : Is st' E c f := by
  obtain ⟨t, a, b, d⟩ := h; exact ⟨t, l.den a, b, d⟩
theorem Is.zero (st : Bd) (E : List Int) : Is st E 0 fun _ => false := ⟨_, .zero, .leaf, fun _ => rfl⟩
theorem Is.one (st : Bd) (E : List Int) : Is st E 1 fun _ => true := ⟨_, .one, .leaf, fun _ => rfl⟩
theorem Is.cong {st : Bd} {c : Nat} {f g : (Int → Bool) → Bool} (h : Is st E c f) (e : ∀ ρ, f ρ = g ρ) : Is st E c g := by
  obtain ⟨t, a, b, d⟩ := h; exact ⟨t, a, b, fun ρ => (d ρ).trans (e ρ)⟩
/-- one number for each meaning -/
theorem Is.eq_iff {st : Bd} (g : Good E st) {c d : Nat} {f h : (Int → Bool) → Bool} (a : Is st E c f) (b : Is st E d h) : c = d ↔ ∀ ρ, f ρ = h ρ := by
  obtain ⟨t, a1, a2, a3⟩ := a
  obtain ⟨u, b1, b2, b3⟩ := b
  constructor
  · intro e ρ
    subst e
    rw [← a3, ← b3, a1.fn b1]
  · intro e
    have : t = u := Wt.canon g.asc a2 b2 fun ρ => by rw [a3, b3, e]
    subst this
    exact a1.inj g.nd b1
theorem comb_is (g : BG G) (h : DAt S s n m r st) (hg : Good E st) {k o a b : Nat} (ho : o < 3) {f1 f2 : (Int → Bool) → Bool} (d1 : Is st E a f1) (d2 : Is st E b f2)
    (hk : 3 * E.length + 2 ≤ k) (hn : st.ns.length + pw E ≤ 15000000) (hm : st.mm.length + pw E ≤ 15000000) :
    ∃ c S' st', run G k 162 [.p s, .d (.str (opT o)), .d (.int a), .d (.int b)] S = .ok (.d (.int (c : Nat))) S' ∧ Mean S S' s n m r E st st' c (fun ρ => opB o (f1 ρ) (f2 ρ)) (pw E) := by
  obtain ⟨t1, a1, a2, a3⟩ := d1
  obtain ⟨t2, b1, b2, b3⟩ := d2
  obtain ⟨c, S', st', e, o1⟩ := (both g (E' := E) (E := E) (P := []) rfl hg.asc).1 S s n m r st k o a b t1 t2 h hg ho a1 b1 a2 b2 hk hn hm
  obtain ⟨t, dt, wt, vt⟩ := o1.den
  have := o1.gn
  have := o1.gm
  exact ⟨c, S', st', e, o1.at_, o1.fr, o1.le, o1.good, ⟨t, dt, wt, fun ρ => by rw [vt, a3, b3]⟩, by omega, by omega⟩
theorem meth_is (g : BG G) (h : DAt S s n m r st) (hg : Good E st) {k o a b : Nat} (ho : o < 3) {f1 f2 : (Int → Bool) → Bool} (d1 : Is st E a f1) (d2 : Is st E b f2)
    (hk : 3 * E.length + 3 ≤ k) (hn : st.ns.length + pw E ≤ 15000000) (hm : st.mm.length + pw E ≤ 15000000) :
    ∃ c S' st', run G k (164 + o) [.p s, .d (.int a), .d (.int b)] S = .ok (.d (.int (c : Nat))) S' ∧ Mean S S' s n m r E st st' c (fun ρ => opB o (f1 ρ) (f2 ρ)) (pw E) := by
  obtain ⟨k, rfl⟩ : ∃ j, k = j + 1 := ⟨k - 1, by omega⟩
  obtain ⟨c, S', st', e, o1⟩ := comb_is (k := k) g h hg ho d1 d2 (by omega) hn hm
  have hs := h.hs
  refine ⟨c, S', st', ?_, o1⟩
  have : o = 0 ∨ o = 1 ∨ o = 2 := by omega
  rcases this with rfl | rfl | rfl
  · rw [run_keep (d := d164) g.f164 rfl rfl]
    simp [opT] at e
    simp [d164, b164, hs, e]
  · rw [run_keep (d := d165) g.f165 rfl rfl]
    simp [opT] at e
    simp [d165, b165, hs, e]
  · rw [run_keep (d := d166) g.f166 rfl rfl]
    simp [opT] at e
    simp [d166, b166, hs, e]
theorem neg_is (g : BG G) (h : DAt S s n m r st) (hg : Good E st) {k a : Nat} {f1 : (Int → Bool) → Bool} (d1 : Is st E a f1)
    (hk : 3 * E.length + 4 ≤ k) (hn : st.ns.length + pw E ≤ 15000000) (hm : st.mm.length + pw E ≤ 15000000) :
    ∃ c S' st', run G k 167 [.p s, .d (.int a)] S = .ok (.d (.int (c : Nat))) S' ∧ Mean S S' s n m r E st st' c (fun ρ => !f1 ρ) (pw E) := by
  obtain ⟨k, rfl⟩ : ∃ j, k = j + 1 := ⟨k - 1, by omega⟩
  obtain ⟨c, S', st', e, o1⟩ := meth_is (k := k) (o := 2) g h hg (by decide) d1 (Is.one st E) (by omega) hn hm
  have hs := h.hs
  have c1 := g.c1
  refine ⟨c, S', st', ?_, o1.at_, o1.fr, o1.le, o1.good, Is.cong o1.den fun ρ => ?_, o1.gn, o1.gm⟩
  · rw [run_keep (d := d167) g.f167 rfl rfl]
    simp at e
    simp [d167, b167, hs, c1, e]
  · cases f1 ρ <;> rfl
theorem there_is (g : BG G) (h : DAt S s n m r st) (hg : Good E st) {k : Nat} {x : Int} (hx : x ∈ E) (hk : 2 ≤ k) (hn : st.ns.length + 1 ≤ 15000000) :
    ∃ c S' st', run G k 160 [.p s, .d (.int x)] S = .ok (.d (.int (c : Nat))) S' ∧ Mean S S' s n m r E st st' c (fun ρ => ρ x) 1 := by
  obtain ⟨k, rfl⟩ : ∃ j, k = j + 2 := ⟨k - 2, by omega⟩
  obtain ⟨P, E', hE⟩ := List.append_of_mem hx
  obtain ⟨S', e, h', f'⟩ := make_run g h k x 0 1 (by omega)
  obtain ⟨g3, le3, mm3, len3, t, dt, wt, vt⟩ := hg.make hE Den.zero Den.one .leaf .leaf
  have hs := h.hs
  have c0 := g.c0
  have c1 := g.c1
  refine ⟨_, S', _, ?_, h', f', le3, g3, ⟨t, dt, by rw [hE]; exact wt.app P, fun ρ => ?_⟩, by omega, by rw [mm3]; omega⟩
  · rw [run_keep (d := d160) g.f160 rfl rfl]
    simp at e
    simp [d160, b160, hs, c0, c1, e]
  · rw [vt]; cases ρ x <;> rfl
end
end Z
end

section
set_option maxHeartbeats 2000000
set_option maxRecDepth 10000
/-! B5: the laws' trees: drawn, built, asked; all sets. -/
namespace Z
open BD
/-- a tree of a law -/
inductive Tr where
  | con (b : Bool) | there (e : Int) | not (t : Tr) | bin (o : Nat) (a b : Tr)
def Tr.enc : Tr → D
  | .con b => .tup [.str [99, 111, 110, 115, 116, 97, 110, 116], .int (if b then 1 else 0)]
  | .there e => .tup [.str [116, 104, 101, 114, 101], .int e]
  | .not t => .tup [.str [110, 111, 116], t.enc]
  | .bin o a b => .tup [.str (opT o), a.enc, b.enc]
def Tr.ev : Tr → (Int → Bool) → Bool
  | .con b, _ => b
  | .there e, ρ => ρ e
  | .not t, ρ => !t.ev ρ
  | .bin o a b, ρ => opB o (a.ev ρ) (b.ev ρ)
def Tr.h : Tr → Nat
  | .con _ => 0
  | .there _ => 0
  | .not t => t.h + 1
  | .bin _ a b => max a.h b.h + 1
def Tr.size : Tr → Nat
  | .con _ => 1
  | .there _ => 1
  | .not t => t.size + 1
  | .bin _ a b => a.size + b.size + 1
/-- it asks about the entries E alone -/
def Tr.In (E : List Int) : Tr → Prop
  | .con _ => True
  | .there e => e ∈ E
  | .not t => t.In E
  | .bin o a b => o < 3 ∧ a.In E ∧ b.In E
theorem Tr.congr {E : List Int} : ∀ {t : Tr}, t.In E → ∀ {ρ σ : Int → Bool}, (∀ e ∈ E, ρ e = σ e) → t.ev ρ = t.ev σ
  | .con _, _, _, _, _ => rfl
  | .there e, h, _, _, k => k e h
  | .not t, h, ρ, σ, k => by show (!t.ev ρ) = !t.ev σ; rw [Tr.congr (t := t) h k]
  | .bin o a b, h, ρ, σ, k => by show opB o (a.ev ρ) (b.ev ρ) = opB o (a.ev σ) (b.ev σ); rw [Tr.congr (t := a) h.2.1 k, Tr.congr (t := b) h.2.2 k]
theorem Tr.size_le : ∀ t : Tr, t.size + 1 ≤ 2 ^ (t.h + 1)
  | .con _ => by simp [Tr.size, Tr.h]
  | .there _ => by simp [Tr.size, Tr.h]
  | .not t => by
    have := Tr.size_le t
    simp only [Tr.size, Tr.h]
    rw [Nat.pow_succ]
    have : 1 ≤ 2 ^ (t.h + 1) := Nat.one_le_two_pow
    omega
  | .bin _ a b => by
    have h1 := Tr.size_le a
    have h2 := Tr.size_le b
    simp only [Tr.size, Tr.h]
    rw [Nat.pow_succ]
    have h3 : 2 ^ (a.h + 1) ≤ 2 ^ (max a.h b.h + 1) := Nat.pow_le_pow_right (by decide) (by omega)
    have h4 : 2 ^ (b.h + 1) ≤ 2 ^ (max a.h b.h + 1) := Nat.pow_le_pow_right (by decide) (by omega)
    omega
theorem eqD_tup {S : Sto} {xs : List D} (i : Nat) {x : D} (h : xs[i]? = some x) : index (.d (.tup xs)) (.d (.int (i : Nat))) S = .ok (.d x) S := by
  obtain ⟨hi, _⟩ := List.getElem?_eq_some_iff.mp h
  have h1 : (i : Int) < (xs.length : Int) := by omega
  simp [h1, h]
section
variable {G : Gm} {S : Sto} {n : Nat}
/-! ### asked -/
theorem true_run (g : TG G) (p : List Int) : ∀ (t : Tr) {E : List Int}, t.In E → ∀ (S : Sto) (k : Nat), t.h + 1 ≤ k → run G k 681 [.d t.enc, .d (.lst (p.map .int))] S = .ok (.d (.bl (t.ev fun e => decide (e ∈ p)))) S := by
  intro t
  induction t with
  | con b =>
    intro E _ S k hk
    obtain ⟨k, rfl⟩ : ∃ j, k = j + 1 := ⟨k - 1, by omega⟩
    rw [run_alone (d := d681) g.f681 rfl rfl rfl]
    cases b <;> simp [d681, b681, Tr.enc, Tr.ev]
  | there e =>
    intro E _ S k hk
    obtain ⟨k, rfl⟩ : ∃ j, k = j + 1 := ⟨k - 1, by omega⟩
    rw [run_alone (d := d681) g.f681 rfl rfl rfl]
    have hm := memL_flat (S := []) (k := false) (x := .int e) (xs := p.map .int) rfl (by simp)
    simp [d681, b681, Tr.enc, Tr.ev, hm]
    clear hm
    induction p with
    | nil => rfl
    | cons y p ih => simp [List.any_cons, ih]; by_cases z : y = e <;> simp [z]; simp [Ne.symm z]
  | not t ih =>
    intro E h S k hk
    simp only [Tr.h] at hk
    obtain ⟨k, rfl⟩ : ∃ j, k = j + 1 := ⟨k - 1, by omega⟩
    have := ih h [] k (by omega)
    rw [run_alone (d := d681) g.f681 rfl rfl rfl]
    simp [d681, b681, Tr.enc, Tr.ev, this]
  | bin o a b iha ihb =>
    intro E h S k hk
    simp only [Tr.h] at hk
    obtain ⟨k, rfl⟩ : ∃ j, k = j + 1 := ⟨k - 1, by omega⟩
    have h1 := iha h.2.1 [] k (by omega)
    have h2 := ihb h.2.2 [] k (by omega)
    rw [run_alone (d := d681) g.f681 rfl rfl rfl]
    have ho : o = 0 ∨ o = 1 ∨ o = 2 := by have := h.1; omega
    rcases ho with rfl | rfl | rfl
    · simp [d681, b681, Tr.enc, Tr.ev, opT, h1, h2]
      cases a.ev fun e => decide (e ∈ p) <;> simp [opB]
    · simp [d681, b681, Tr.enc, Tr.ev, opT, h1, h2]
      cases a.ev fun e => decide (e ∈ p) <;> simp [opB]
    · simp [d681, b681, Tr.enc, Tr.ev, opT, h1, h2]
      cases a.ev (fun e => decide (e ∈ p)) <;> cases b.ev (fun e => decide (e ∈ p)) <;> simp [opB]
/-! ### drawn -/
theorem tree_run (g : TG G) {E : List Int} (hE : 1 ≤ E.length) (hE2 : E.length ≤ 1000) : ∀ (d : Nat) (S : Sto) (c : Cell) (k : Nat), S[n]? = some c → DrawC c → d + 2 ≤ k →
    ∃ t c', run G k 679 [.p n, .d (.lst (E.map .int)), .d (.int (d : Nat))] S = .ok (.d (Tr.enc t)) (S.set n c') ∧ DrawC c' ∧ t.In E ∧ t.h ≤ d := by
  intro d
  induction d with
  | zero =>
    intro S c k hc hd hk
    obtain ⟨k, rfl⟩ : ∃ j, k = j + 2 := ⟨k - 2, by omega⟩
    have ln : n < S.length := (List.getElem?_eq_some_iff.mp hc).1
    have gs : ∀ c : Cell, (S.set n c)[n]? = some c := fun c => List.getElem?_set_self ln
    obtain ⟨v, c1, e1, d1, p1, q1⟩ := next_run (k := k) g.f501 (m := 9) (by decide) (by decide) hc hd
    obtain ⟨v2, c2, e2, d2, p2, q2⟩ := next_run (k := k) g.f501 (m := 12) (by decide) (by decide) (gs c1) d1
    rw [run_keep (d := d679) g.f679 rfl rfl]
    rw [List.set_set] at e2
    by_cases hz : v2 = 0
    · subst hz
      obtain ⟨v3, c3, e3, d3, p3, q3⟩ := next_run (k := k) g.f501 (m := 2) (by decide) (by decide) (gs c2) d2
      rw [List.set_set] at e3
      refine ⟨.con (decide (v3 = 1)), c3, ?_, d3, trivial, Nat.le_refl _⟩
      have : v3 = 0 ∨ v3 = 1 := by omega
      rcases this with rfl | rfl <;> simp [d679, b679, e1, e2, e3, Tr.enc]
    · obtain ⟨v3, c3, e3, d3, p3, q3⟩ := next_run (k := k) g.f501 (m := (E.length : Nat)) (by omega) (by omega) (gs c2) d2
      rw [List.set_set] at e3
      have hi : v3.toNat < E.length := by omega
      refine ⟨.there E[v3.toNat], c3, ?_, d3, List.getElem_mem hi, Nat.le_refl _⟩
      simp [d679, b679, e1, e2, e3, hz, Tr.enc, p3, q3, hi]
  | succ d ih =>
    intro S c k hc hd hk
    obtain ⟨k, rfl⟩ : ∃ j, k = j + 2 := ⟨k - 2, by omega⟩
    have ln : n < S.length := (List.getElem?_eq_some_iff.mp hc).1
    have gs : ∀ c : Cell, (S.set n c)[n]? = some c := fun c => List.getElem?_set_self ln
    obtain ⟨v, c1, e1, d1, p1, q1⟩ := next_run (k := k) g.f501 (m := 9) (by decide) (by decide) hc hd
    have hd1 : ¬ ((d : Int) + 1 = 0) := by omega
    have hd2 : (d : Int) + 1 - 1 = (d : Int) := by omega
    rw [run_keep (d := d679) g.f679 rfl rfl]
    by_cases hv : v < 2
    · obtain ⟨v2, c2, e2, d2, p2, q2⟩ := next_run (k := k) g.f501 (m := 12) (by decide) (by decide) (gs c1) d1
      rw [List.set_set] at e2
      by_cases hz : v2 = 0
      · subst hz
        obtain ⟨v3, c3, e3, d3, p3, q3⟩ := next_run (k := k) g.f501 (m := 2) (by decide) (by decide) (gs c2) d2
        rw [List.set_set] at e3
        refine ⟨.con (decide (v3 = 1)), c3, ?_, d3, trivial, Nat.zero_le _⟩
        have : v3 = 0 ∨ v3 = 1 := by omega
        rcases this with rfl | rfl <;> simp [d679, b679, e1, e2, e3, Tr.enc, hv, hd1]
      · obtain ⟨v3, c3, e3, d3, p3, q3⟩ := next_run (k := k) g.f501 (m := (E.length : Nat)) (by omega) (by omega) (gs c2) d2
        rw [List.set_set] at e3
        have hi : v3.toNat < E.length := by omega
        refine ⟨.there E[v3.toNat], c3, ?_, d3, List.getElem_mem hi, Nat.zero_le _⟩
        simp [d679, b679, e1, e2, e3, hz, Tr.enc, p3, q3, hi, hv, hd1]
    · obtain ⟨t, c2, e2, d2, i2, h2⟩ := ih (S.set n c1) c1 (k + 1) (gs c1) d1 (by omega)
      rw [List.set_set] at e2
      by_cases h3 : v = 2
      · subst h3
        exact ⟨.not t, c2, by simp [d679, b679, e1, e2, hd1, hd2, Tr.enc], d2, i2, by simp only [Tr.h]; omega⟩
      · obtain ⟨u, c3, e3, d3, i3, h4⟩ := ih (S.set n c2) c2 (k + 1) (gs c2) d2 (by omega)
        rw [List.set_set] at e3
        have : v = 3 ∨ v = 4 ∨ v = 5 ∨ v = 6 ∨ v = 7 ∨ v = 8 := by omega
        refine ⟨.bin (v % 3).toNat t u, c3, ?_, d3, ⟨by omega, i2, i3⟩, by simp only [Tr.h]; omega⟩
        rcases this with rfl | rfl | rfl | rfl | rfl | rfl <;> simp [d679, b679, e1, e2, e3, hd1, hd2, Tr.enc, opT]
/-! ### all sets -/
def subs (E : List Int) : List (List Int) := E.foldl (fun f e => f ++ f.map (· ++ [e])) [[]]
theorem subs_snoc (E : List Int) (e : Int) : subs (E ++ [e]) = subs E ++ (subs E).map (· ++ [e]) := by simp [subs, List.foldl_append]
theorem snoc_ind {α : Type} {P : List α → Prop} (h0 : P []) (h1 : ∀ xs x, P xs → P (xs ++ [x])) (xs : List α) : P xs := by
  have : ∀ ys : List α, P ys.reverse := fun ys => by
    induction ys with
    | nil => exact h0
    | cons y ys ih => rw [List.reverse_cons]; exact h1 _ _ ih
  have := this xs.reverse
  rwa [List.reverse_reverse] at this
theorem subs_len (E : List Int) : (subs E).length = 2 ^ E.length := by
  induction E using snoc_ind with
  | h0 => rfl
  | h1 xs x ih => rw [subs_snoc]; simp [ih, Nat.pow_succ]; omega
theorem subs_filter (E : List Int) (ρ : Int → Bool) : E.filter ρ ∈ subs E := by
  induction E using snoc_ind with
  | h0 => simp [subs]
  | h1 xs x ih =>
    rw [subs_snoc, List.filter_append]
    by_cases h : ρ x
    · simp [h, ih]
    · simp [h, ih]
theorem subs_sub {E p : List Int} : p ∈ subs E → ∀ e ∈ p, e ∈ E := by
  induction E using snoc_ind generalizing p with
  | h0 => simp [subs]; intro h; subst h; simp
  | h1 xs x ih =>
    rw [subs_snoc]
    intro h e he
    rcases List.mem_append.mp h with h | h
    · exact List.mem_append_left _ (ih h e he)
    · obtain ⟨q, hq, rfl⟩ := List.mem_map.mp h
      rcases List.mem_append.mp he with he | he
      · exact List.mem_append_left _ (ih hq e he)
      · exact List.mem_append_right _ he
theorem subs_plen {E p : List Int} : p ∈ subs E → p.length ≤ E.length := by
  induction E using snoc_ind generalizing p with
  | h0 => simp [subs]
  | h1 xs x ih =>
    rw [subs_snoc]
    intro h
    rw [List.length_append]
    rcases List.mem_append.mp h with h | h
    · exact Nat.le_trans (ih h) (by omega)
    · obtain ⟨q, hq, rfl⟩ := List.mem_map.mp h
      have := ih hq
      simp; omega
def encP (p : List Int) : D := .lst (p.map .int)
theorem turns_en {α : Type} {f : Env → Sto → Res (Option Vl)} {i : Nat} {ρ : Env} {S : Sto} (enc g : α → D) : ∀ {xs : List α} (acc : List Vl), (∀ x ∈ xs, f (ρ.set i (some (.d (enc x)))) S = .ok (some (.d (g x))) S) → acc.length + xs.length ≤ 16777216 → turns f (.var i) ρ (xs.map (Vl.d ∘ enc)) acc S = .ok (acc ++ xs.map (Vl.d ∘ g)) S
  | [], acc, _, _ => by simp [turns]
  | d :: ds, acc, h, hl => by
    have hl' : acc.length + 1 + ds.length ≤ 16777216 := by simp only [List.length_cons] at hl; omega
    have hz : acc.length < 16777216 := by omega
    have ih := turns_en enc g (xs := ds) (acc ++ [.d (g d)]) (fun e he => h e (List.mem_cons_of_mem _ he)) (by simp; omega)
    rw [List.map_cons]
    unfold turns
    simp only [Function.comp, bindT_var, h d (List.mem_cons_self ..), most, hz, decide_true, if_true]
    change turns f (.var i) ρ (ds.map (Vl.d ∘ enc)) _ S = _
    rw [ih]
    simp
abbrev subB (G : Gm) (k : Nat) : Env → Sto → RS := exs G (run G k) [.asg (.var 1) (.op (.add) (.var 1) (.lc false (.op (.add) (.var 3) (.lst false [.var 2])) (.var 3) [3] (.seq) [.var 1] none))]
theorem subs_run (g : TG G) (E : List Int) (hE : E.length ≤ 20) (k : Nat) (S : Sto) : run G (k + 1) 682 [.d (.lst (E.map .int))] S = .ok (.d (.lst ((subs E).map encP))) S := by
  rw [run_alone (d := d682) g.f682 rfl rfl rfl]
  have loop : ∀ (post pre : List Int) (x y : Option Vl), pre.length + post.length ≤ 20 → ∃ x' y', fors (subB G k) (.var 2) (post.map (Vl.d ∘ .int)) [some (.d (.lst (E.map .int))), some (.d (.lst ((subs pre).map encP))), x, y] [] =
      .nx [some (.d (.lst (E.map .int))), some (.d (.lst ((subs (pre ++ post)).map encP))), x', y'] [] := by
    intro post
    induction post with
    | nil => intro pre x y _; exact ⟨x, y, by rw [List.append_nil]; rfl⟩
    | cons i post ih =>
      intro pre x y hl
      rw [List.length_cons] at hl
      obtain ⟨x', y', e⟩ := ih (pre ++ [i]) (some (.d (.int i))) y (by simp; omega)
      refine ⟨x', y', ?_⟩
      have hp : 2 ^ pre.length ≤ 2 ^ 19 := Nat.pow_le_pow_right (by decide) (by omega)
      have hsl := subs_len pre
      rw [List.map_cons, fors_var]
      have ht := turns_en (f := lcB G (run G k) none (.op .add (.var 3) (.lst false [.var 2]))) (i := 3) (ρ := [some (.d (.lst (E.map .int))), some (.d (.lst ((subs pre).map encP))), some (.d (.int i)), none]) (S := []) encP (fun p => encP (p ++ [i])) (xs := subs pre) [] (fun p hp => by
        have := subs_plen hp
        have hq : p.length + 1 ≤ 16777216 := by omega
        simp [encP, hq]) (by rw [hsl]; simp; omega)
      have hl3 : (subs pre).length ≤ 16777216 := by omega
      have hl2 : (subs pre).length + (subs pre).length ≤ 16777216 := by omega
      rw [subs_snoc] at e
      simp at e
      simp [subB, ht, hl2, hl3, forNx_nx]
      exact e
  obtain ⟨x, y, e⟩ := loop E [] none none (by simpa using hE)
  have e' : fors (subB G k) (.var 2) (E.map (Vl.d ∘ .int)) [some (.d (.lst (E.map .int))), some (.d (.lst [.lst []])), none, none] [] =
      .nx [some (.d (.lst (E.map .int))), some (.d (.lst ((subs E).map encP))), x, y] [] := e
  simp [d682, b682, e']
/-! ### the entries -/
abbrev entB (G : Gm) (k : Nat) : Env → Sto → RS := exs G (run G k) [.expr (.bm (.append) (.var 2) [.var 3]), .asg (.var 3) (.op (.add) (.op (.add) (.var 3) (.con (.int 1))) (.op (.mul) (.call 501 [.var 0, .con (.int 2)]) (.call 501 [.var 0, .con (.int 90)])))]
theorem entries_run (g : TG G) {c : Cell} (hd : DrawC c) {most : Int} (h0 : 0 < most) (h1 : most ≤ 100) (k : Nat) :
    ∃ E c', run G (k + 2) 678 [.p 0, .d (.int most)] [c] = .ok (.d (.lst (E.map .int))) [c'] ∧ DrawC c' ∧ Asc E ∧ 1 ≤ E.length ∧ (E.length : Int) ≤ most ∧ ∀ e ∈ E, 0 ≤ e ∧ e ≤ 2 + 90 * (E.length : Int) := by
  rw [run_keep (d := d678) g.f678 rfl rfl]
  obtain ⟨v, c1, e1, d1, p1, q1⟩ := next_run (k := k) g.f501 (m := 3) (by decide) (by decide) (S := [c, .lst []]) (n := 0) rfl hd
  obtain ⟨w, c2, e2, d2, p2, q2⟩ := next_run (k := k) g.f501 (m := most) (by omega) (by omega) (S := [c1, .lst []]) (n := 0) rfl d1
  have loop : ∀ (j : Nat) (xs : List Nat) (c : Cell) (F : List Int) (last : Int) (x : Option Vl), xs.length = j → DrawC c → Asc F → (∀ e ∈ F, e < last) → (∀ e ∈ F, 0 ≤ e) → 0 ≤ last → last ≤ 2 + 90 * (F.length : Int) → F.length + j ≤ 200 →
      ∃ F' c' y z, fors (entB G (k + 1)) (.var 4) (xs.map fun (j : Nat) => .d (.int (j : Int))) [some (.p 0), some (.d (.int most)), some (.p 1), some (.d (.int last)), x] [c, .lst (F.map (Vl.d ∘ .int))] = .nx [some (.p 0), some (.d (.int most)), some (.p 1), y, z] [c', .lst (F'.map (Vl.d ∘ .int))] ∧ DrawC c' ∧ Asc F' ∧ F'.length = F.length + j ∧ ∀ e ∈ F', 0 ≤ e ∧ e ≤ 2 + 90 * (F'.length : Int) := by
    intro j
    induction j with
    | zero =>
      intro xs c F last x hx hc hF h1 h2 _ h3 _
      rw [List.length_eq_zero_iff.mp hx]
      exact ⟨F, c, _, _, rfl, hc, hF, rfl, fun e he => ⟨h2 e he, by have := h1 e he; omega⟩⟩
    | succ j ih =>
      intro xs c F last x hx hc hF hl hpos hlp hlu hb
      cases xs with
      | nil => simp at hx
      | cons a xs =>
        obtain ⟨u, c3, e3, d3, p3, q3⟩ := next_run (k := k) g.f501 (m := 2) (by decide) (by decide) (S := [c, .lst ((F ++ [last]).map (Vl.d ∘ .int))]) (n := 0) rfl hc
        obtain ⟨t, c4, e4, d4, p4, q4⟩ := next_run (k := k) g.f501 (m := 90) (by decide) (by decide) (S := [c3, .lst ((F ++ [last]).map (Vl.d ∘ .int))]) (n := 0) rfl d3
        have hut : 0 ≤ u * t := Int.mul_nonneg p3 p4
        have hut2 : u * t ≤ 89 := by
          have : u = 0 ∨ u = 1 := by omega
          rcases this with rfl | rfl <;> omega
        obtain ⟨F', c', y, z, e5, d5, a5, l5, b5⟩ := ih xs c4 (F ++ [last]) (last + 1 + u * t) (some (.d (.int (a : Nat)))) (by simpa using hx) d4 (by
          unfold Asc; rw [List.pairwise_append]; exact ⟨hF, by simp, by simpa using hl⟩) (fun e he => by
          rcases List.mem_append.mp he with he | he
          · have := hl e he; omega
          · rw [List.mem_singleton.mp he]; omega) (fun e he => by
          rcases List.mem_append.mp he with he | he
          · exact hpos e he
          · rw [List.mem_singleton.mp he]; omega) (by omega) (by simp; omega) (by simp; omega)
        refine ⟨F', c', y, z, ?_, d5, a5, by rw [l5]; simp; omega, b5⟩
        have hm : cMul u t = true := by unfold cMul; simp; omega
        have hlen : F.length < 16777216 := by omega
        simp at e3 e4 e5
        rw [List.map_cons, fors_var]
        simp [entB, mAppend, listOf, hlen, e3, e4, hm, forNx_nx]
        exact e5
  have hj : (w + 1).toNat ≤ 100 := by omega
  obtain ⟨F', c', y, z, e5, d5, a5, l5, b5⟩ := loop (w + 1).toNat (List.range (w + 1).toNat) c2 [] v none (by simp) d2 (by simp [Asc]) (by simp) (by simp) p1 (by simp; omega) (by simp; omega)
  have wk := wk_rng (S := [c2, Cell.lst []]) (i := 1 + w) (by omega) (by omega)
  have hw : 1 + w = w + 1 := by omega
  rw [hw] at wk
  simp at e1 e2 e5 l5
  refine ⟨F', c', ?_, d5, a5, by omega, by omega, b5⟩
  simp [d678, b678, e1, e2, hw, wk, e5]
  obtain ⟨xs, p, r, s, rfl, _⟩ := d5
  have hz : pures (F'.map (Vl.d ∘ .int)) = some (F'.map .int) := pures_mapf _ _
  simp [leave, freeze, hz, leave.close, Cell.below, Vl.below]
/-! ### built -/
section
variable {s m r : Nat} {st : Bd} {E : List Int}
theorem enc_ix1 {S : Sto} {t : D} {xs : List D} {x : D} : index (.d (.tup (x :: t :: xs))) (.d (.int 1)) S = .ok (.d t) S := by
  have h : (1 : Int) < (xs.length : Int) + 1 + 1 := by omega
  simp [h]
theorem build_run (g : BG G) (tg : TG G) : ∀ (t : Tr) (S : Sto) (st : Bd) (k : Nat), DAt S s n m r st → Good E st → t.In E → t.h + 3 * E.length + 6 ≤ k → st.ns.length + t.size * pw E ≤ 15000000 → st.mm.length + t.size * pw E ≤ 15000000 →
    ∃ c S' st', run G k 680 [.p s, .d t.enc] S = .ok (.d (.int (c : Nat))) S' ∧ Mean S S' s n m r E st st' c t.ev (t.size * pw E) := by
  have hp := pw_pos E
  intro t
  induction t with
  | con b =>
    intro S st k h hg _ hk _ _
    obtain ⟨k, rfl⟩ : ∃ j, k = j + 1 := ⟨k - 1, by omega⟩
    refine ⟨if b then 1 else 0, S, st, ?_, h, .refl _ _ _ _, .refl _, hg, ?_, by omega, by omega⟩
    · rw [run_keep (d := d680) tg.f680 rfl rfl]
      cases b <;> simp [d680, b680, Tr.enc]
    · cases b
      · exact Is.zero st E
      · exact Is.one st E
  | there e =>
    intro S st k h hg hi hk hn hm
    obtain ⟨k, rfl⟩ : ∃ j, k = j + 1 := ⟨k - 1, by omega⟩
    simp only [Tr.size, Nat.one_mul] at hn hm ⊢
    obtain ⟨c, S', st', e1, o1⟩ := there_is (k := k) g h hg hi (by omega) (by omega)
    have hs := h.hs
    have gn := o1.gn
    have gm := o1.gm
    refine ⟨c, S', st', ?_, o1.at_, o1.fr, o1.le, o1.good, o1.den, by omega, by omega⟩
    rw [run_keep (d := d680) tg.f680 rfl rfl]
    simp [d680, b680, Tr.enc, hs, e1]
  | not t ih =>
    intro S st k h hg hi hk hn hm
    simp only [Tr.h] at hk
    simp only [Tr.size, Nat.add_mul, Nat.one_mul] at hn hm ⊢
    obtain ⟨k, rfl⟩ : ∃ j, k = j + 1 := ⟨k - 1, by omega⟩
    obtain ⟨a, S1, s1, e1, o1⟩ := ih S st k h hg hi (by omega) (by omega) (by omega)
    have n1 := o1.gn
    have m1 := o1.gm
    obtain ⟨c, S2, s2, e2, o2⟩ := neg_is (k := k) g o1.at_ o1.good o1.den (by omega) (by omega) (by omega)
    have n2 := o2.gn
    have m2 := o2.gm
    have hs := o1.at_.hs
    refine ⟨c, S2, s2, ?_, o2.at_, o1.fr.trans o2.fr, o1.le.trans o2.le, o2.good, o2.den, by omega, by omega⟩
    rw [run_keep (d := d680) tg.f680 rfl rfl]
    simp [d680, b680, Tr.enc, hs, e1, e2]
  | bin o a b iha ihb =>
    intro S st k h hg hi hk hn hm
    simp only [Tr.h] at hk
    simp only [Tr.size, Nat.add_mul, Nat.one_mul] at hn hm ⊢
    obtain ⟨k, rfl⟩ : ∃ j, k = j + 1 := ⟨k - 1, by omega⟩
    obtain ⟨x, S1, s1, e1, o1⟩ := iha S st k h hg hi.2.1 (by omega) (by omega) (by omega)
    have n1 := o1.gn
    have m1 := o1.gm
    obtain ⟨y, S2, s2, e2, o2⟩ := ihb S1 s1 k o1.at_ o1.good hi.2.2 (by omega) (by omega) (by omega)
    have n2 := o2.gn
    have m2 := o2.gm
    obtain ⟨c, S3, s3, e3, o3⟩ := meth_is (k := k) (o := o) g o2.at_ o2.good hi.1 (Is.le o1.den o2.le) o2.den (by omega) (by omega) (by omega)
    have n3 := o3.gn
    have m3 := o3.gm
    have hs := o2.at_.hs
    refine ⟨c, S3, s3, ?_, o3.at_, (o1.fr.trans o2.fr).trans o3.fr, (o1.le.trans o2.le).trans o3.le, o3.good, o3.den, by omega, by omega⟩
    have ho : o = 0 ∨ o = 1 ∨ o = 2 := by have := hi.1; omega
    rw [run_keep (d := d680) tg.f680 rfl rfl]
    rcases ho with rfl | rfl | rfl
    · simp at e3
      simp [d680, b680, Tr.enc, opT, hs, e1, e2, e3]
    · simp at e3
      simp [d680, b680, Tr.enc, opT, hs, e1, e2, e3]
    · simp at e3
      simp [d680, b680, Tr.enc, opT, hs, e1, e2, e3]
end
end
end Z
end

section
set_option maxHeartbeats 2000000
set_option maxRecDepth 10000
/-! B6: a new store; many trees built; truths. -/
namespace Z
open BD
@[simp] theorem lock_some {S : Sto} {n : Nat} {c : Cell} : lock S (some (n, c)) = S.set n .dead := (rfl)
@[simp] theorem unlock_some {S : Sto} {n : Nat} {c : Cell} : unlock S (some (n, c)) = S.set n c := (rfl)
@[simp] theorem bList_lst {k : Bool} {xs : List D} {S : Sto} : bList k (.d (.lst xs)) S = newList k (xs.map .d) S := (rfl)
section
variable {G : Gm} {S : Sto} {s n m r : Nat} {st : Bd} {E : List Int}
theorem init_run (g : BG G) (S : Sto) (k : Nat) : run G (k + 2) 158 [.p S.length] (S ++ [.ins 1 []]) =
    .ok (.d .non) (S ++ [.ins 1 [(3, .p (S.length + 1)), (4, .p (S.length + 2)), (5, .p (S.length + 3))], .lst [.d .non, .d .non], .dct true [], .dct true []]) := by
  rw [run_init (d := d158) g.f158 rfl rfl]
  simp [d158, b158]
theorem new_at (S : Sto) : DAt (S ++ [.ins 1 [(3, .p (S.length + 1)), (4, .p (S.length + 2)), (5, .p (S.length + 3))], .lst [.d .non, .d .non], .dct true [], .dct true []]) S.length (S.length + 1) (S.length + 2) (S.length + 3) ⟨[], []⟩ :=
  ⟨by simp, by simp [nodesV], by simp [numsF], by simp [memoV], by omega⟩
theorem new_good {E : List Int} (h : Asc E) : Good E ⟨[], []⟩ :=
  ⟨h, fun c hc => by
    have : c = 0 ∨ c = 1 := by simp at hc; omega
    rcases this with rfl | rfl
    · exact ⟨_, .zero, .leaf⟩
    · exact ⟨_, .one, .leaf⟩, by simp, by simp⟩
theorem DAt.set {i : Nat} {c : Cell} (h : DAt S s n m r st) (h1 : i ≠ s) (h2 : i ≠ n) (h3 : i ≠ m) (h4 : i ≠ r) : DAt (S.set i c) s n m r st :=
  ⟨(List.getElem?_set_ne h1).trans h.hs, (List.getElem?_set_ne h2).trans h.hn, (List.getElem?_set_ne h3).trans h.hm, (List.getElem?_set_ne h4).trans h.hr, h.ne⟩
theorem DAt.app {c : Cell} (h : DAt S s n m r st) : DAt (S ++ [c]) s n m r st :=
  ⟨(List.getElem?_append_left (lt_of_get h.hs)).trans h.hs, (List.getElem?_append_left (lt_of_get h.hn)).trans h.hn, (List.getElem?_append_left (lt_of_get h.hm)).trans h.hm, (List.getElem?_append_left (lt_of_get h.hr)).trans h.hr, h.ne⟩
theorem datas_ints (k : Nat) : ∀ bs : List Int, isDatas k (bs.map .int) = true
  | [] => by simp
  | b :: bs => by simp [datas_ints k bs]
theorem data_ints (bs : List Int) : isData 64 (.lst (bs.map .int)) = true := by rw [isData_lst]; exact datas_ints _ _
def encN (c : Nat) : D := .int (c : Int)
/-- many trees built -/
theorem builds (g : BG G) (tg : TG G) {k i H W : Nat} {f : Env → Sto → Res (Option Vl)} {ρ : Env} (hf : ∀ (d : D) (S : Sto) (c : D) (S' : Sto), run G k 680 [.p s, .d d] S = .ok (.d c) S' → f (ρ.set i (some (.d d))) S = .ok (some (.d c)) S') (hk : H + 3 * E.length + 6 ≤ k) :
    ∀ (ts : List Tr) (acc : List Vl) (S : Sto) (st : Bd), DAt S s n m r st → Good E st → (∀ t ∈ ts, t.In E ∧ t.h ≤ H ∧ t.size * pw E ≤ W) → acc.length + ts.length ≤ 1000 → st.ns.length + ts.length * W ≤ 15000000 → st.mm.length + ts.length * W ≤ 15000000 →
    ∃ (cs : List Nat) (S' : Sto) (st' : Bd), turns f (.var i) ρ (ts.map (Vl.d ∘ Tr.enc)) acc S = .ok (acc ++ cs.map (Vl.d ∘ encN)) S' ∧ DAt S' s n m r st' ∧ Fr S S' n m r ∧ st.Le st' ∧ Good E st' ∧ cs.length = ts.length ∧
      (∀ (j : Nat) (t : Tr), ts[j]? = some t → ∃ c, cs[j]? = some c ∧ Is st' E c t.ev) ∧ st'.ns.length ≤ st.ns.length + ts.length * W ∧ st'.mm.length ≤ st.mm.length + ts.length * W := by
  intro ts
  induction ts with
  | nil => intro acc S st h hg _ _ _ _; exact ⟨[], S, st, by simp [turns], h, .refl _ _ _ _, .refl _, hg, rfl, by simp, by omega, by omega⟩
  | cons t ts ih =>
    intro acc S st h hg ht ha hn hm
    simp only [List.length_cons, Nat.add_mul, Nat.one_mul] at ha hn hm ⊢
    obtain ⟨t1, t2, t3⟩ := ht t (by simp)
    obtain ⟨c, S1, s1, e1, o1⟩ := build_run (k := k) g tg t S st h hg t1 (by omega) (by omega) (by omega)
    have n1 := o1.gn
    have m1 := o1.gm
    obtain ⟨cs, S2, s2, e2, h2, f2, l2, g2, len, v2, n2, m2⟩ := ih (acc ++ [.d (.int (c : Nat))]) S1 s1 o1.at_ o1.good (fun u hu => ht u (List.mem_cons_of_mem _ hu)) (by simp; omega) (by omega) (by omega)
    refine ⟨c :: cs, S2, s2, ?_, h2, o1.fr.trans f2, o1.le.trans l2, g2, by simp [len], ?_, by omega, by omega⟩
    · have hz : acc.length < 16777216 := by omega
      rw [List.map_cons]
      unfold turns
      simp only [Function.comp, bindT_var, hf _ _ _ _ e1, most, hz, decide_true, if_true]
      change turns f (.var i) ρ (ts.map (Vl.d ∘ Tr.enc)) _ S1 = _
      rw [e2]
      simp [encN]
    · intro j u hu
      cases j with
      | zero =>
        have hu : t = u := by simpa using hu
        subst hu
        exact ⟨c, rfl, Is.le o1.den l2⟩
      | succ j =>
        obtain ⟨d, hd, i⟩ := v2 j u (by simpa using hu)
        exact ⟨d, by simpa using hd, i⟩
end
/-- a for that changes nothing but what it counts with -/
theorem fors_calm {b : Env → Sto → RS} {i : Nat} {ρ : Env} {S : Sto} : ∀ {xs : List Vl} {x0 : Option Vl}, (∀ v ∈ xs, b (ρ.set i (some v)) S = .nx (ρ.set i (some v)) S) → ∃ x, fors b (.var i) xs (ρ.set i x0) S = .nx (ρ.set i x) S
  | [], x0, _ => ⟨x0, rfl⟩
  | v :: xs, x0, h => by
    obtain ⟨x, e⟩ := fors_calm (xs := xs) (x0 := some v) fun w hw => h w (List.mem_cons_of_mem _ hw)
    refine ⟨x, ?_⟩
    rw [fors_var, List.set_set, h v (by simp), forNx_nx]
    exact e
/-! ### truths -/
def Tv (E : List Int) (f : (Int → Bool) → Bool) : List Bool := (subs E).map fun p => f fun e => decide (e ∈ p)
/-- it asks about E alone -/
def Fin1 (E : List Int) (f : (Int → Bool) → Bool) : Prop := ∀ {ρ σ : Int → Bool}, (∀ e ∈ E, ρ e = σ e) → f ρ = f σ
theorem Tr.fin1 {E : List Int} {t : Tr} (h : t.In E) : Fin1 E t.ev := fun {_ _} k => Tr.congr h k
theorem fin_filter {E : List Int} {f : (Int → Bool) → Bool} (h : Fin1 E f) (ρ : Int → Bool) : f ρ = f fun e => decide (e ∈ E.filter ρ) :=
  h fun e he => by simp [he]
theorem Tv_eq {E : List Int} {f g : (Int → Bool) → Bool} (hf : Fin1 E f) (hg : Fin1 E g) : Tv E f = Tv E g ↔ ∀ ρ, f ρ = g ρ := by
  constructor
  · intro e ρ
    rw [fin_filter hf, fin_filter hg]
    unfold Tv at e
    exact List.map_inj_left.mp e _ (subs_filter E ρ)
  · intro e
    unfold Tv
    exact List.map_congr_left fun p _ => e _
theorem Tv_any {E : List Int} {f : (Int → Bool) → Bool} (hf : Fin1 E f) : (Tv E f).any id = false ↔ ∀ ρ, f ρ = false := by
  unfold Tv
  rw [List.any_map, List.any_eq_false]
  constructor
  · intro e ρ
    rw [fin_filter hf]
    have := e _ (subs_filter E ρ)
    simpa using this
  · intro e p _
    simp [e]
theorem Tv_all {E : List Int} {f : (Int → Bool) → Bool} (hf : Fin1 E f) : (Tv E f).all id = true ↔ ∀ ρ, f ρ = true := by
  unfold Tv
  rw [List.all_map, List.all_eq_true]
  constructor
  · intro e ρ
    rw [fin_filter hf]
    exact e _ (subs_filter E ρ)
  · intro e p _
    exact e _
theorem eqv_bls : ∀ bs cs : List Bool, eqv (.lst (bs.map .bl)) (.lst (cs.map .bl)) = decide (bs = cs)
  | [], [] => rfl
  | [], _ :: _ => rfl
  | _ :: _, [] => rfl
  | b :: bs, c :: cs => by
    have ih := eqv_bls bs cs
    have : eqv (.lst ((b :: bs).map .bl)) (.lst ((c :: cs).map .bl)) = (eqv (.bl b) (.bl c) && eqv (.lst (bs.map .bl)) (.lst (cs.map .bl))) := rfl
    rw [this, ih, eqv_bl]
    by_cases h : b = c <;> by_cases k : bs = cs <;> simp [h, k]
theorem datas_bls (n : Nat) : ∀ bs : List Bool, isDatas n (bs.map .bl) = true
  | [] => by simp
  | b :: bs => by simp [datas_bls n bs]
theorem data_bls (bs : List Bool) : isData 64 (.lst (bs.map .bl)) = true := by rw [isData_lst]; exact datas_bls _ _
end Z
end

section
set_option maxHeartbeats 2000000
set_option maxRecDepth 10000
/-! B7: a condition asked. -/
namespace Z
open BD
def Bt.h : Bt → Nat
  | .leaf _ => 0
  | .node _ l r => max l.h r.h + 1
theorem Wt.h_le {E : List Int} {t : Bt} (h : Wt E t) : t.h ≤ E.length := by
  induction h with
  | leaf => exact Nat.zero_le _
  | skip _ ih => exact Nat.le_succ_of_le ih
  | node _ _ _ i1 i2 => simp only [Bt.h, List.length_cons]; omega
section
variable {G : Gm} {S : Sto} {s n m r : Nat} {st : Bd} {E : List Int}
theorem any_int (p : List Int) (e : Int) : ((p.map D.int).any fun x => eqv x (.int e)) = decide (e ∈ p) := by
  induction p with
  | nil => rfl
  | cons y p ih => simp only [List.map_cons, List.any_cons, ih, eqv_int]; by_cases z : y = e <;> simp [z]; simp [Ne.symm z]
theorem memI {k : Bool} (p : List Int) (e : Int) (S : Sto) : cMem k (.d (.int e)) (.d (.lst (p.map .int))) S = .ok (.d (.bl (if k then !decide (e ∈ p) else decide (e ∈ p)))) S := by
  rw [memL_flat (by rfl) (by simp), any_int]
theorem holds_run (g : BG G) (f170 : G.defs 170 = some d170) (hfu : 1000 ≤ G.fuel) (h : DAt S s n m r st) {c : Nat} {t : Bt} (d : Den st.ns c t) (ht : t.h < 900) (p : List Int) (k : Nat) :
    run G (k + 1) 170 [.p s, .d (.int (c : Nat)), .d (.lst (p.map .int))] S = .ok (.d (.bl (t.val fun e => decide (e ∈ p)))) S := by
  rw [run_keep (d := d170) f170 rfl rfl]
  have c1 := g.c1
  have hs := h.hs
  have ixn0 : ∀ (x : Nd), nodeD x = .tup [.int x.1, .int x.2.1, .int x.2.2] := fun _ => rfl
  have loop : ∀ (t : Bt) (c : Nat), Den st.ns c t → ∀ (fu : Nat), t.h < fu → ∀ x3 x4 x5, ∃ y3 y4 y5, whl (tst G (run G k) (.cmp (.gt) (.var 1) (.glob 108))) (exs G (run G k) [.asg (.tup [.var 3, .var 4, .var 5]) (.ix (.fld (.var 0) 3 [1]) (.var 1)), .asg (.var 1) (.ite (.cmp (.mem) (.var 3) (.var 2)) (.var 5) (.var 4))]) fu
      [some (.p s), some (.d (.int (c : Nat))), some (.d (.lst (p.map .int))), x3, x4, x5] S = .nx [some (.p s), some (.d (.int ((if (t.val fun e => decide (e ∈ p)) then 1 else 0 : Nat) : Int))), some (.d (.lst (p.map .int))), y3, y4, y5] S := by
    intro t
    induction t with
    | leaf b =>
      intro c d fu hf x3 x4 x5
      obtain ⟨fu, rfl⟩ : ∃ j, fu = j + 1 := ⟨fu - 1, by omega⟩
      have := d.leaf_inv
      subst this
      refine ⟨x3, x4, x5, ?_⟩
      unfold whl
      cases b <;> simp [c1, Bt.val]
    | node e l u il iu =>
      intro c d fu hf x3 x4 x5
      simp only [Bt.h] at hf
      obtain ⟨fu, rfl⟩ : ∃ j, fu = j + 1 := ⟨fu - 1, by omega⟩
      obtain ⟨a, b, i1, da, db, hc⟩ := ix_node h d
      have hc' : (1 : Int) < (c : Int) := by omega
      have mm := memI (k := false) p e S
      by_cases he : e ∈ p
      · obtain ⟨y3, y4, y5, e1⟩ := iu b db fu (by omega) (some (.d (.int e))) (some (.d (.int (a : Nat)))) (some (.d (.int (b : Nat))))
        refine ⟨y3, y4, y5, ?_⟩
        unfold whl
        simp [-index_p, c1, hc', hs, i1, ixn0, mm, he, val_node]
        exact e1
      · obtain ⟨y3, y4, y5, e1⟩ := il a da fu (by omega) (some (.d (.int e))) (some (.d (.int (a : Nat)))) (some (.d (.int (b : Nat))))
        refine ⟨y3, y4, y5, ?_⟩
        unfold whl
        simp [-index_p, c1, hc', hs, i1, ixn0, mm, he, val_node]
        exact e1
  obtain ⟨y3, y4, y5, e⟩ := loop t c d G.fuel (by omega) none none none
  generalize (t.val fun e => decide (e ∈ p)) = b at e ⊢
  cases b
  · simp at e
    simp [d170, b170, e, c1]
  · simp at e
    simp [d170, b170, e, c1]
end
end Z
end

section
set_option maxHeartbeats 2000000
set_option maxRecDepth 10000
/-! B8: the nodes reached, in their order. -/
namespace Z
namespace BD
def b171 : List Z.St := [.asg (.var 2) (.dct false true []), .fors (.var 3) (.seq) [.var 1] [.asg (.var 4) (.lst true [.var 3]), .whl (.var 4) [.asg (.var 5) (.ix (.var 4) (.neg (.con (.int 1)))), .asg (.var 6) (.lc false (.var 7) (.var 7) [7] (.seq) [.meth (.var 0) [(1, 172)] [.var 5]] (some (.cmp (.nmem) (.var 7) (.var 2)))), .ifs (.var 6) [.expr (.bm (.append) (.var 4) [.ix (.var 6) (.con (.int 0))])] [.expr (.bm (.pop) (.var 4) []), .ifs (.cmp (.gt) (.var 5) (.glob 108)) [.sub (.var 2) (.var 5) (.con (.bl true))] []]]], .ret (.bf (.list) false [.var 2])]
def d171 : Df := { slots := 8, params := 2, body := b171, keep := true, alone := false, init := false }
def b172 : List Z.St := [.ifs (.cmp (.le) (.var 1) (.glob 108)) [.ret (.lst false [])] [], .ret (.lc false (.var 2) (.var 2) [2] (.seq) [.sl (.ix (.fld (.var 0) 3 [1]) (.var 1)) (some (.con (.int 1))) none] (some (.cmp (.gt) (.var 2) (.glob 108))))]
def d172 : Df := { slots := 3, params := 2, body := b172, keep := true, alone := false, init := false }
end BD
open BD
/-- a comprehension with an if -/
theorem turns_fil {α : Type} {f : Env → Sto → Res (Option Vl)} {i : Nat} {ρ : Env} {S : Sto} (enc g : α → D) (q : α → Bool) : ∀ {xs : List α} (acc : List Vl), (∀ x ∈ xs, f (ρ.set i (some (.d (enc x)))) S = .ok (if q x then some (.d (g x)) else none) S) → acc.length + xs.length ≤ 16777216 → turns f (.var i) ρ (xs.map (Vl.d ∘ enc)) acc S = .ok (acc ++ (xs.filter q).map (Vl.d ∘ g)) S
  | [], acc, _, _ => by simp [turns]
  | d :: ds, acc, h, hl => by
    have hl' : acc.length + 1 + ds.length ≤ 16777216 := by simp only [List.length_cons] at hl; omega
    have hz : acc.length < 16777216 := by omega
    have h0 := h d (List.mem_cons_self ..)
    rw [List.map_cons]
    unfold turns
    simp only [Function.comp, bindT_var, h0]
    by_cases hq : q d = true
    · have ih := turns_fil enc g q (xs := ds) (acc ++ [.d (g d)]) (fun e he => h e (List.mem_cons_of_mem _ he)) (by simp; omega)
      simp only [hq, if_true, most, hz, decide_true]
      change turns f (.var i) ρ (ds.map (Vl.d ∘ enc)) _ S = _
      rw [ih]
      simp [hq]
    · have ih := turns_fil enc g q (xs := ds) acc (fun e he => h e (List.mem_cons_of_mem _ he)) (by omega)
      have hq' : q d = false := by simpa using hq
      simp only [hq']
      change turns f (.var i) ρ (ds.map (Vl.d ∘ enc)) _ S = _
      rw [ih]
      simp [hq']
/-- the parts of a number that are nodes -/
def kids (ns : List Nd) (c : Nat) : List Nat := if c < 2 then [] else match ns[c - 2]? with
  | some x => [x.2.1, x.2.2].filter fun p => decide (1 < p)
  | none => []
section
variable {G : Gm} {S : Sto} {s n m r : Nat} {st : Bd} {E : List Int}
theorem ix_nd (h : DAt S s n m r st) {i : Nat} {x : Nd} (h1 : st.ns[i]? = some x) : index (.p n) (.d (.int ((i + 2 : Nat) : Int))) S = .ok (.d (nodeD x)) S := by
  have hi := (List.getElem?_eq_some_iff.mp h1).1
  have hn := h.hn
  have e1 : ((i + 2 : Nat) : Int) = (i : Int) + 2 := by omega
  have e2 : (0 : Int) ≤ (i : Int) + 2 := by omega
  have e3 : (i : Int) + 2 < (st.ns.length : Int) + 1 + 1 := by omega
  have e4 : ((i : Int) + 2).toNat = i + 2 := by omega
  simp [hn, nodesV, e1, e2, e3, e4, h1]
theorem parts_run (g : BG G) (f172 : G.defs 172 = some d172) (h : DAt S s n m r st) {c : Nat} {t : Bt} (d : Den st.ns c t) (k : Nat) :
    run G (k + 1) 172 [.p s, .d (.int (c : Nat))] S = .ok (.d (.lst ((kids st.ns c).map encN))) S := by
  have c1 := g.c1
  have hs := h.hs
  rw [run_keep (d := d172) f172 rfl rfl]
  cases t with
  | leaf b =>
    have := d.leaf_inv
    subst this
    cases b <;> simp [d172, b172, c1, kids]
  | node e l u =>
    obtain ⟨i, a, b, rfl, h1, h2, h3⟩ := d.node_inv
    have i1 := ix_nd h h1
    have hc : ¬ ((i : Int) + 2 ≤ 1) := by omega
    have hc' : ¬ (i + 2 < 2) := by omega
    have hi2 : ((i + 2 : Nat) : Int) = (i : Int) + 2 := by omega
    rw [hi2] at i1 ⊢
    have htu := turns_fil (f := lcB G (run G k) (some (.cmp (.gt) (.var 2) (.glob 108))) (.var 2)) (i := 2) (ρ := [some (.p s), some (.d (.int ((i : Int) + 2))), none]) (S := S) encN encN (fun p => decide (1 < p)) (xs := [a, b]) [] (fun p _ => by
      by_cases hp : 1 < p
      · have : (1 : Int) < (p : Int) := by omega
        simp [encN, c1, this, hp]
      · have : ¬ (1 : Int) < (p : Int) := by omega
        simp [encN, c1, this, hp]) (by simp)
    have hcut : cut [D.int e, .int a, .int b] (some 1) none = [.int a, .int b] := by
      have := cut_from [D.int e, .int a, .int b] 1
      simpa using this
    have hl : ([a, b].filter fun p => decide (1 < p)).length ≤ 16777216 := by
      have := List.length_filter_le (fun p => decide (1 < p)) [a, b]
      simp at this
      omega
    simp [encN] at htu
    simp [-index_p, d172, b172, c1, kids, hs, hc, hc', i1, nodeD, slice, HT.sIx, encN, h1, hcut, htu, hl]
def whNx (c : Env → Sto → Res Bool) (b : Env → Sto → RS) (fu : Nat) : RS → RS
  | .nx ρ S => whl c b fu ρ S
  | .ct ρ S => whl c b fu ρ S
  | .bk ρ S => .nx ρ S
  | r => r
def kWh (c : Env → Sto → Res Bool) (b : Env → Sto → RS) (fu : Nat) (ρ : Env) : Bool → Sto → RS := fun t S => if t then whNx c b fu (b ρ S) else .nx ρ S
section
variable {c : Env → Sto → Res Bool} {b : Env → Sto → RS} {fu : Nat} {ρ : Env} {w : Vl}
theorem kWh_t : kWh c b fu ρ true S = whNx c b fu (b ρ S) := (rfl)
theorem kWh_f : kWh c b fu ρ false S = .nx ρ S := (rfl)
theorem whNx_nx : whNx c b fu (.nx ρ S) = whl c b fu ρ S := (rfl)
theorem whNx_ct : whNx c b fu (.ct ρ S) = whl c b fu ρ S := (rfl)
theorem whNx_bk : whNx c b fu (.bk ρ S) = .nx ρ S := (rfl)
theorem whNx_rt : whNx c b fu (.rt w S) = .rt w S := (rfl)
theorem whl_s : whl c b (fu + 1) ρ S = (c ρ S).thn (kWh c b fu ρ) := by
  show (c ρ S).thn _ = _
  congr 1
end
/-! ### the walk -/
def fdK (f : List Nat) : List (D × Vl) := f.map fun c => (encN c, .d (.bl true))
theorem find_fdK (f : List Nat) (c : Nat) : kvFind (fdK f) (.int (c : Int)) = if c ∈ f then some (.d (.bl true)) else none := by
  unfold kvFind fdK
  induction f with
  | nil => simp
  | cons a f ih =>
    simp only [List.map_cons, List.find?_cons, encN, eqv_int]
    by_cases h : a = c
    · simp [h]
    · have h' : ¬ ((a : Int) = (c : Int)) := by omega
      have h2 : ¬ c = a := fun z => h z.symm
      simp only [h', decide_false, List.mem_cons, h2, false_or]
      exact ih
def addN (f : List Nat) (c : Nat) : List Nat := if c ∈ f then f else f ++ [c]
theorem put_fdK (f : List Nat) (c : Nat) : kvPut (fdK f) (.int (c : Int)) (.d (.bl true)) = fdK (addN f c) := by
  have ha : ((fdK f).any fun kv => eqv kv.1 (.int (c : Int))) = decide (c ∈ f) := by
    unfold fdK
    rw [List.any_map]
    induction f with
    | nil => rfl
    | cons a f ih =>
      simp only [List.any_cons, ih, Function.comp, encN, eqv_int]
      by_cases h : a = c
      · simp [h]
      · have h' : ¬ ((a : Int) = (c : Int)) := by omega
        have h2 : ¬ c = a := fun z => h z.symm
        simp [h', h2]
        exact ih
  unfold kvPut addN
  rw [ha]
  by_cases h : c ∈ f
  · simp only [h, decide_true, if_true]
    unfold fdK
    rw [List.map_map]
    apply List.map_congr_left
    intro a _
    simp only [Function.comp, encN, eqv_int]
    by_cases z : (a : Int) = (c : Int)
    · simp [z]
    · simp [z]
  · simp only [h, decide_false, if_false]
    simp [fdK, encN]
abbrev whB (G : Gm) (k : Nat) : Env → Sto → RS := exs G (run G k) [.asg (.var 5) (.ix (.var 4) (.neg (.con (.int 1)))), .asg (.var 6) (.lc false (.var 7) (.var 7) [7] (.seq) [.meth (.var 0) [(1, 172)] [.var 5]] (some (.cmp (.nmem) (.var 7) (.var 2)))), .ifs (.var 6) [.expr (.bm (.append) (.var 4) [.ix (.var 6) (.con (.int 0))])] [.expr (.bm (.pop) (.var 4) []), .ifs (.cmp (.gt) (.var 5) (.glob 108)) [.sub (.var 2) (.var 5) (.con (.bl true))] []]]
abbrev wh (G : Gm) (k fu : Nat) : Env → Sto → RS := whl (tst G (run G k) (.var 4)) (whB G k) fu
def envR (s : Nat) (cs : D) (F : Nat) (x3 : Option Vl) (P : Nat) (x5 x6 x7 : Option Vl) : Env := [some (.p s), some (.d cs), some (.p F), x3, some (.p P), x5, x6, x7]
def stoR (T : Sto) (F P : Nat) (f stk : List Nat) : Sto := (T.set F (.dct false (fdK f))).set P (.lst (stk.map (Vl.d ∘ encN)))
structure Rk (T : Sto) (F P s n m r : Nat) : Prop where
  lF : F < T.length
  lP : P < T.length
  ne : F ≠ P
  fs : F ≠ s ∧ F ≠ n ∧ F ≠ m ∧ F ≠ r
  ps : P ≠ s ∧ P ≠ n ∧ P ≠ m ∧ P ≠ r
theorem kids_len (ns : List Nd) (c : Nat) : (kids ns c).length ≤ 2 := by
  unfold kids
  split
  · simp
  · split
    · exact Nat.le_trans (List.length_filter_le _ _) (by simp)
    · simp
theorem stoR_F {T : Sto} {F P : Nat} (q : Rk T F P s n m r) {f f' stk : List Nat} : (stoR T F P f stk).set F (.dct false (fdK f')) = stoR T F P f' stk := by
  unfold stoR
  rw [List.set_comm _ _ q.ne, List.set_set, List.set_comm _ _ q.ne]
theorem look (g : BG G) (f172 : G.defs 172 = some d172) {T : Sto} {F P : Nat} (q : Rk T F P s n m r) (h : DAt T s n m r st) {c : Nat} {t : Bt} (d : Den st.ns c t) (k fu : Nat) (cs : D) (x3 x5 x6 x7 : Option Vl) (f stk : List Nat) (hf : f.length < 16000000) (hs : stk.length < 16000000) :
    ∃ y5 y6 y7, wh G (k + 1) (fu + 1) (envR s cs F x3 P x5 x6 x7) (stoR T F P f (stk ++ [c])) = wh G (k + 1) fu (envR s cs F x3 P y5 y6 y7) (match (kids st.ns c).filter (fun p => !decide (p ∈ f)) with
      | [] => stoR T F P (if 1 < c then addN f c else f) stk
      | p :: _ => stoR T F P f (stk ++ [c, p])) := by
  have c1 := g.c1
  have hD : DAt (stoR T F P f (stk ++ [c])) s n m r st := (h.set q.fs.1 q.fs.2.1 q.fs.2.2.1 q.fs.2.2.2).set q.ps.1 q.ps.2.1 q.ps.2.2.1 q.ps.2.2.2
  have pr := parts_run g f172 hD d k
  have aF : (stoR T F P f (stk ++ [c]))[F]? = some (.dct false (fdK f)) := (List.getElem?_set_ne q.ne.symm).trans (List.getElem?_set_self q.lF)
  have aP : (stoR T F P f (stk ++ [c]))[P]? = some (.lst ((stk ++ [c]).map (Vl.d ∘ encN))) := List.getElem?_set_self (by rw [List.length_set]; exact q.lP)
  have hss := hD.hs
  have htru : tru (.p P) (stoR T F P f (stk ++ [c])) = .ok true (stoR T F P f (stk ++ [c])) := by
    simp [tru, truthy, aP]
  have hix : index (.p P) (.d (.int (-1))) (stoR T F P f (stk ++ [c])) = .ok (.d (.int (c : Int))) (stoR T F P f (stk ++ [c])) := by
    have e1 : (1 : Int) ≤ (stk.length : Int) + 1 := by omega
    have e2 : (-1 + ((stk.length : Int) + 1)).toNat = stk.length := by omega
    simp [aP, encN, e1, e2]
  have hlist : (listOf (.p P) (stoR T F P f (stk ++ [c]))).isSome = true := by simp [listOf, aP]
  have hz : stk.length + 1 < 16777216 := by omega
  have happ : ∀ p : Nat, mAppend (.p P) (.d (.int (p : Int))) (stoR T F P f (stk ++ [c])) = .ok (.d .non) (stoR T F P f (stk ++ [c, p])) := fun p => by
    simp [mAppend, aP, hz]
    simp [stoR, List.set_set, encN]
  have hpop : mPop (.p P) (stoR T F P f (stk ++ [c])) = .ok (.d (.int (c : Int))) (stoR T F P f stk) := by
    simp [mPop, aP, encN]
    simp [stoR, List.set_set]
  have htu := turns_fil (f := lcB G (run G (k + 1)) (some (.cmp (.nmem) (.var 7) (.var 2))) (.var 7)) (i := 7) (ρ := [some (.p s), some (.d cs), some (.p F), x3, some (.p P), some (.d (.int (c : Int))), x6, none]) (S := stoR T F P f (stk ++ [c])) encN encN (fun p => !decide (p ∈ f)) (xs := kids st.ns c) [] (fun p _ => by
    have hm := cMem_dct (k := true) aF (x := .int (p : Int)) rfl
    by_cases hp : p ∈ f
    · simp [encN, hm, find_fdK, hp]
    · simp [encN, hm, find_fdK, hp]) (by have := kids_len st.ns c; simp; omega)
  simp at htu
  have hk := kids_len st.ns c
  have hfl := List.length_filter_le (fun p => !decide (p ∈ f)) (kids st.ns c)
  have hlen : ((kids st.ns c).filter (fun p => !decide (p ∈ f))).length ≤ 16777216 := by omega
  cases hps : (kids st.ns c).filter (fun p => !decide (p ∈ f)) with
  | nil =>
    refine ⟨some (.d (.int (c : Int))), some (.d (.lst [])), x7, ?_⟩
    rw [hps] at htu
    unfold wh
    rw [whl_s]
    by_cases hc : 1 < c
    · have hc' : (1 : Int) < (c : Int) := by omega
      have aF' : (stoR T F P f stk)[F]? = some (.dct false (fdK f)) := (List.getElem?_set_ne q.ne.symm).trans (List.getElem?_set_self q.lF)
      have hz2 : (fdK f).length < 16777216 := by unfold fdK; rw [List.length_map]; omega
      simp [-index_p, envR, htru, hix, hss, pr, htu, kWh_t, hpop, whNx_nx, c1, hc', hc, setItem_dct aF', keyOk, flatKey, hz2, put_fdK, hlist]
      rw [stoR_F q]
    · have hc' : ¬ (1 : Int) < (c : Int) := by omega
      simp [-index_p, envR, htru, hix, hss, pr, htu, kWh_t, hpop, whNx_nx, c1, hc', hc, hlist]
  | cons p ps =>
    refine ⟨some (.d (.int (c : Int))), some (.d (.lst ((p :: ps).map encN))), x7, ?_⟩
    rw [hps] at hlen htu
    simp at hlen htu
    unfold wh
    rw [whl_s]
    simp [-index_p, envR, htru, hix, hss, pr, htu, hlen, kWh_t, hlist, encN, happ, whNx_nx]
/-- what the walk finds under a condition -/
def walkT (ns : List Nd) : Bt → Nat → List Nat → List Nat
  | .leaf _, _, f => f
  | .node _ l r, c, f => if c ∈ f then f else match ns[c - 2]? with
    | some x => walkT ns r x.2.2 (walkT ns l x.2.1 f) ++ [c]
    | none => f
/-- each one's parts are there -/
def Closed (ns : List Nd) (f : List Nat) : Prop := ∀ c ∈ f, 2 ≤ c ∧ ∀ p ∈ kids ns c, p ∈ f
def Bt.size : Bt → Nat
  | .leaf _ => 1
  | .node _ l r => l.size + r.size + 1
theorem walk_node {ns : List Nd} {e : Int} {l r : Bt} {i a b : Nat} (h : ns[i]? = some (e, a, b)) (f : List Nat) : walkT ns (.node e l r) (i + 2) f = if i + 2 ∈ f then f else walkT ns r b (walkT ns l a f) ++ [i + 2] := by
  simp only [walkT]
  rw [show i + 2 - 2 = i by omega, h]
/-- what is added: its size is no greater -/
theorem walk_add {ns : List Nd} : ∀ (t : Bt) (c : Nat) (f : List Nat), Den ns c t → ∃ more, walkT ns t c f = f ++ more ∧ ∀ x ∈ more, ∃ u, Den ns x u ∧ u.size ≤ t.size
  | .leaf b, c, f, _ => ⟨[], by simp [walkT], by simp⟩
  | .node e l r, c, f, d => by
    obtain ⟨i, a, b, rfl, h1, h2, h3⟩ := d.node_inv
    rw [walk_node h1]
    split
    · exact ⟨[], by simp, by simp⟩
    · obtain ⟨m1, e1, p1⟩ := walk_add l a f h2
      obtain ⟨m2, e2, p2⟩ := walk_add r b (f ++ m1) h3
      refine ⟨m1 ++ m2 ++ [i + 2], by rw [e1, e2]; simp, fun x hx => ?_⟩
      simp only [List.mem_append, List.mem_singleton] at hx
      rcases hx with (hx | hx) | hx
      · obtain ⟨u, du, su⟩ := p1 x hx; exact ⟨u, du, by simp only [Bt.size]; omega⟩
      · obtain ⟨u, du, su⟩ := p2 x hx; exact ⟨u, du, by simp only [Bt.size]; omega⟩
      · subst hx; exact ⟨_, d, Nat.le_refl _⟩
theorem walk_len {ns : List Nd} : ∀ (t : Bt) (c : Nat) (f : List Nat), Den ns c t → (walkT ns t c f).length ≤ f.length + t.size
  | .leaf b, c, f, _ => by simp [walkT]
  | .node e l r, c, f, d => by
    obtain ⟨i, a, b, rfl, h1, h2, h3⟩ := d.node_inv
    rw [walk_node h1]
    split
    · simp [Bt.size]
    · have := walk_len l a f h2
      have := walk_len r b (walkT ns l a f) h3
      simp only [List.length_append, List.length_singleton, Bt.size]; omega
theorem walk_mem {ns : List Nd} {t : Bt} {c : Nat} {f : List Nat} (d : Den ns c t) (h : 2 ≤ c) : c ∈ walkT ns t c f := by
  cases t with
  | leaf b => have := d.leaf_inv; revert this; split <;> omega
  | node e l r =>
    obtain ⟨i, a, b, rfl, h1, h2, h3⟩ := d.node_inv
    rw [walk_node h1]
    split
    · assumption
    · simp
theorem kids_nd {ns : List Nd} {i : Nat} {x : Nd} (h : ns[i]? = some x) : kids ns (i + 2) = [x.2.1, x.2.2].filter fun p => decide (1 < p) := by
  unfold kids
  rw [if_neg (by omega), show i + 2 - 2 = i by omega, h]
theorem mem_kids {ns : List Nd} {i : Nat} {x : Nd} (h : ns[i]? = some x) {p : Nat} : p ∈ kids ns (i + 2) ↔ (p = x.2.1 ∨ p = x.2.2) ∧ 1 < p := by
  rw [kids_nd h]; simp [List.mem_filter]
theorem walk_closed {ns : List Nd} : ∀ (t : Bt) (c : Nat) (f : List Nat), Den ns c t → Closed ns f → Closed ns (walkT ns t c f)
  | .leaf b, c, f, _, h => h
  | .node e l r, c, f, d, h => by
    obtain ⟨i, a, b, rfl, h1, h2, h3⟩ := d.node_inv
    rw [walk_node h1]
    split
    · exact h
    · have k1 := walk_closed l a f h2 h
      have k2 := walk_closed r b _ h3 k1
      obtain ⟨m2, e2, _⟩ := walk_add r b (walkT ns l a f) h3
      intro x hx
      rcases List.mem_append.mp hx with hx | hx
      · exact ⟨(k2 x hx).1, fun p hp => List.mem_append_left _ ((k2 x hx).2 p hp)⟩
      · rw [List.mem_singleton.mp hx]
        refine ⟨by omega, fun p hp => List.mem_append_left _ ?_⟩
        obtain ⟨hp, h2p⟩ := (mem_kids h1).mp hp
        rcases hp with rfl | rfl
        · rw [e2]; exact List.mem_append_left _ (walk_mem h2 (by omega))
        · exact walk_mem h3 (by omega)
theorem walk_nodup {ns : List Nd} : ∀ (t : Bt) (c : Nat) (f : List Nat), Den ns c t → f.Nodup → (walkT ns t c f).Nodup
  | .leaf b, c, f, _, h => h
  | .node e l r, c, f, d, h => by
    obtain ⟨i, a, b, rfl, h1, h2, h3⟩ := d.node_inv
    rw [walk_node h1]
    split
    · exact h
    · rename_i hc
      have k2 := walk_nodup r b _ h3 (walk_nodup l a f h2 h)
      rw [List.nodup_append]
      refine ⟨k2, by simp, fun y hy z hz => ?_⟩
      rw [List.mem_singleton.mp hz]
      intro e
      subst e
      obtain ⟨m1, e1, p1⟩ := walk_add l a f h2
      obtain ⟨m2, e2, p2⟩ := walk_add r b (walkT ns l a f) h3
      rw [e2, e1] at hy
      simp only [List.mem_append] at hy
      rcases hy with (hy | hy) | hy
      · exact hc hy
      · obtain ⟨u, du, su⟩ := p1 _ hy
        have := du.fn d
        subst this
        simp only [Bt.size] at su; omega
      · obtain ⟨u, du, su⟩ := p2 _ hy
        have := du.fn d
        subst this
        simp only [Bt.size] at su; omega
/-- from one state to another in at most N looks -/
def Go (G : Gm) (k : Nat) (s : Nat) (cs : D) (x3 : Option Vl) (T : Sto) (F P : Nat) (f stk f' stk' : List Nat) (N : Nat) : Prop := ∀ x5 x6 x7 fu, ∃ fu' y5 y6 y7, fu ≤ fu' ∧ wh G (k + 1) (fu + N) (envR s cs F x3 P x5 x6 x7) (stoR T F P f stk) = wh G (k + 1) fu' (envR s cs F x3 P y5 y6 y7) (stoR T F P f' stk')
theorem Go.refl {k : Nat} {cs : D} {x3 : Option Vl} {T : Sto} {F P : Nat} {f stk : List Nat} : Go G k s cs x3 T F P f stk f stk 0 := fun x5 x6 x7 fu => ⟨fu, x5, x6, x7, Nat.le_refl _, rfl⟩
theorem Go.trans {k : Nat} {cs : D} {x3 : Option Vl} {T : Sto} {F P N M : Nat} {f stk f1 stk1 f2 stk2 : List Nat} (a : Go G k s cs x3 T F P f stk f1 stk1 N) (b : Go G k s cs x3 T F P f1 stk1 f2 stk2 M) : Go G k s cs x3 T F P f stk f2 stk2 (N + M) := fun x5 x6 x7 fu => by
  obtain ⟨fu1, y5, y6, y7, h1, e1⟩ := a x5 x6 x7 (fu + M)
  obtain ⟨fu2, z5, z6, z7, h2, e2⟩ := b y5 y6 y7 (fu1 - M)
  rw [show fu1 - M + M = fu1 by omega] at e2
  refine ⟨fu2, z5, z6, z7, by omega, ?_⟩
  rw [show fu + (N + M) = fu + M + N by omega]
  exact e1.trans e2
theorem Go.mono {k : Nat} {cs : D} {x3 : Option Vl} {T : Sto} {F P N M : Nat} {f stk f1 stk1 : List Nat} (a : Go G k s cs x3 T F P f stk f1 stk1 N) (h : N ≤ M) : Go G k s cs x3 T F P f stk f1 stk1 M := fun x5 x6 x7 fu => by
  obtain ⟨fu1, y5, y6, y7, h1, e1⟩ := a x5 x6 x7 (fu + (M - N))
  rw [show fu + (M - N) + N = fu + M by omega] at e1
  exact ⟨fu1, y5, y6, y7, by omega, e1⟩
/-- nothing to do below -/
theorem go_up (g : BG G) (f172 : G.defs 172 = some d172) {T : Sto} {F P : Nat} (q : Rk T F P s n m r) (h : DAt T s n m r st) (k : Nat) (cs : D) (x3 : Option Vl) {c : Nat} {t : Bt} {f stk : List Nat} (d : Den st.ns c t) (hf : f.length < 16000000) (hs : stk.length < 16000000) (hk : ∀ p ∈ kids st.ns c, p ∈ f) :
    Go G k s cs x3 T F P f (stk ++ [c]) (if 1 < c then addN f c else f) stk 1 := fun x5 x6 x7 fu => by
  obtain ⟨y5, y6, y7, e⟩ := look g f172 q h d k fu cs x3 x5 x6 x7 f stk hf hs
  have : (kids st.ns c).filter (fun p => !decide (p ∈ f)) = [] := by
    rw [List.filter_eq_nil_iff]
    intro p hp
    simp [hk p hp]
  rw [this] at e
  exact ⟨fu, y5, y6, y7, Nat.le_refl _, e⟩
/-- a part below -/
theorem go_down (g : BG G) (f172 : G.defs 172 = some d172) {T : Sto} {F P : Nat} (q : Rk T F P s n m r) (h : DAt T s n m r st) (k : Nat) (cs : D) (x3 : Option Vl) {c p : Nat} {ps : List Nat} {t : Bt} {f stk : List Nat} (d : Den st.ns c t) (hf : f.length < 16000000) (hs : stk.length < 16000000) (hk : (kids st.ns c).filter (fun p => !decide (p ∈ f)) = p :: ps) :
    Go G k s cs x3 T F P f (stk ++ [c]) f (stk ++ [c] ++ [p]) 1 := fun x5 x6 x7 fu => by
  obtain ⟨y5, y6, y7, e⟩ := look g f172 q h d k fu cs x3 x5 x6 x7 f stk hf hs
  rw [hk] at e
  rw [List.append_assoc]
  exact ⟨fu, y5, y6, y7, Nat.le_refl _, e⟩
/-- a condition walked to its end -/
theorem proc (g : BG G) (f172 : G.defs 172 = some d172) {T : Sto} {F P : Nat} (q : Rk T F P s n m r) (h : DAt T s n m r st) (k : Nat) (cs : D) (x3 : Option Vl) :
    ∀ (t : Bt) (c : Nat) (f stk : List Nat), Den st.ns c t → Closed st.ns f → f.length + t.size < 16000000 → stk.length + t.size < 16000000 →
    Go G k s cs x3 T F P f (stk ++ [c]) (walkT st.ns t c f) stk (3 * t.size) := by
  intro t
  induction t with
  | leaf b =>
    intro c f stk d hcl hf hs
    simp only [Bt.size] at hf hs ⊢
    have hc : c < 2 := by rw [d.leaf_inv]; split <;> omega
    have hk : kids st.ns c = [] := by unfold kids; rw [if_pos hc]
    have := go_up g f172 q h k cs x3 (stk := stk) (f := f) d (by omega) (by omega) (by rw [hk]; simp)
    rw [if_neg (by omega)] at this
    exact this.mono (by omega)
  | node e l u il iu =>
    intro c f stk d hcl hf hs
    have dd := d
    obtain ⟨i, a, b, rfl, h1, h2, h3⟩ := d.node_inv
    simp only [Bt.size] at hf hs ⊢
    rw [walk_node h1]
    by_cases hc : i + 2 ∈ f
    · have := go_up g f172 q h k cs x3 (stk := stk) (f := f) dd (by omega) (by omega) (hcl _ hc).2
      rw [if_pos (by omega)] at this
      unfold addN at this
      rw [if_pos hc] at this
      rw [if_pos hc]
      exact this.mono (by omega)
    · rw [if_neg hc]
      have fl1 := walk_len l a f h2
      have cl1 := walk_closed l a f h2 hcl
      have fl2 := walk_len u b (walkT st.ns l a f) h3
      have cl2 := walk_closed u b _ h3 cl1
      -- the first part
      have s1 : Go G k s cs x3 T F P f (stk ++ [i + 2]) (walkT st.ns l a f) (stk ++ [i + 2]) (1 + 3 * l.size) := by
        by_cases ha : 1 < a ∧ a ∉ f
        · have hk : ∃ ps, (kids st.ns (i + 2)).filter (fun p => !decide (p ∈ f)) = a :: ps := by
            rw [kids_nd h1]
            refine ⟨([b].filter fun p => decide (1 < p)).filter fun p => !decide (p ∈ f), ?_⟩
            simp [List.filter_cons, ha.1, ha.2]
          obtain ⟨ps, hk⟩ := hk
          exact (go_down g f172 q h k cs x3 (stk := stk) dd (by omega) (by omega) hk).trans (il a f (stk ++ [i + 2]) h2 hcl (by omega) (by simp; omega))
        · have : walkT st.ns l a f = f := by
            cases l with
            | leaf b => rfl
            | node e' l' r' =>
              obtain ⟨j, a', b', rfl, k1, _, _⟩ := h2.node_inv
              have : j + 2 ∈ f := by
                apply Classical.byContradiction
                intro z
                exact ha ⟨by omega, z⟩
              rw [walk_node k1, if_pos this]
          rw [this]
          exact Go.refl.mono (by omega)
      have s2 : Go G k s cs x3 T F P (walkT st.ns l a f) (stk ++ [i + 2]) (walkT st.ns u b (walkT st.ns l a f)) (stk ++ [i + 2]) (1 + 3 * u.size) := by
        have ina : 1 < a → a ∈ walkT st.ns l a f := fun z => walk_mem h2 (by omega)
        by_cases hb : 1 < b ∧ b ∉ walkT st.ns l a f
        · have hk : (kids st.ns (i + 2)).filter (fun p => !decide (p ∈ walkT st.ns l a f)) = [b] := by
            rw [kids_nd h1]
            by_cases z : 1 < a
            · simp [List.filter_cons, z, hb.1, hb.2, ina z]
            · simp [List.filter_cons, z, hb.1, hb.2]
          exact (go_down g f172 q h k cs x3 (stk := stk) dd (by omega) (by omega) hk).trans (iu b _ (stk ++ [i + 2]) h3 cl1 (by omega) (by simp; omega))
        · have : walkT st.ns u b (walkT st.ns l a f) = walkT st.ns l a f := by
            cases u with
            | leaf b => rfl
            | node e' l' r' =>
              obtain ⟨j, a', b', rfl, k1, _, _⟩ := h3.node_inv
              have : j + 2 ∈ walkT st.ns l a f := by
                apply Classical.byContradiction
                intro z
                exact hb ⟨by omega, z⟩
              rw [walk_node k1, if_pos this]
          rw [this]
          exact Go.refl.mono (by omega)
      have nin : i + 2 ∉ walkT st.ns u b (walkT st.ns l a f) := fun hy => by
        obtain ⟨m1, e1, p1⟩ := walk_add l a f h2
        obtain ⟨m2, e2, p2⟩ := walk_add u b (walkT st.ns l a f) h3
        rw [e2, e1] at hy
        simp only [List.mem_append] at hy
        rcases hy with (hy | hy) | hy
        · exact hc hy
        · obtain ⟨w, du, su⟩ := p1 _ hy
          have := du.fn dd
          subst this
          simp only [Bt.size] at su; omega
        · obtain ⟨w, du, su⟩ := p2 _ hy
          have := du.fn dd
          subst this
          simp only [Bt.size] at su; omega
      have s3 := go_up g f172 q h k cs x3 (stk := stk) (f := walkT st.ns u b (walkT st.ns l a f)) dd (by omega) (by omega) (fun p hp => by
        obtain ⟨hp, h2p⟩ := (mem_kids h1).mp hp
        obtain ⟨m2, e2, _⟩ := walk_add u b (walkT st.ns l a f) h3
        rcases hp with rfl | rfl
        · rw [e2]; exact List.mem_append_left _ (walk_mem h2 (by omega))
        · exact walk_mem h3 (by omega))
      rw [if_pos (by omega)] at s3
      unfold addN at s3
      rw [if_neg nin] at s3
      exact ((s1.trans s2).trans s3).mono (by omega)
end
end Z
end

section
set_option maxHeartbeats 2000000
set_option maxRecDepth 10000
/-! B9: reached, run. -/
namespace Z
open BD
def walkA (ns : List Nd) (cts : List (Bt × Nat)) (f : List Nat) : List Nat := cts.foldl (fun f p => walkT ns p.1 p.2 f) f
section
variable {G : Gm} {S : Sto} {s n m r : Nat} {st : Bd} {E : List Int}
theorem set_same {S : Sto} {i : Nat} {c : Cell} (h : S[i]? = some c) : S.set i c = S := by
  apply List.ext_getElem?
  intro j
  by_cases e : i = j
  · subst e; rw [List.getElem?_set_self (lt_of_get h), h]
  · rw [List.getElem?_set_ne e]
theorem DAt.apps {more : List Cell} (h : DAt S s n m r st) : DAt (S ++ more) s n m r st :=
  ⟨(List.getElem?_append_left (lt_of_get h.hs)).trans h.hs, (List.getElem?_append_left (lt_of_get h.hn)).trans h.hn, (List.getElem?_append_left (lt_of_get h.hm)).trans h.hm, (List.getElem?_append_left (lt_of_get h.hr)).trans h.hr, h.ne⟩
abbrev rcB (G : Gm) (k : Nat) : Env → Sto → RS := exs G (run G k) [.asg (.var 4) (.lst true [.var 3]), .whl (.var 4) [.asg (.var 5) (.ix (.var 4) (.neg (.con (.int 1)))), .asg (.var 6) (.lc false (.var 7) (.var 7) [7] (.seq) [.meth (.var 0) [(1, 172)] [.var 5]] (some (.cmp (.nmem) (.var 7) (.var 2)))), .ifs (.var 6) [.expr (.bm (.append) (.var 4) [.ix (.var 6) (.con (.int 0))])] [.expr (.bm (.pop) (.var 4) []), .ifs (.cmp (.gt) (.var 5) (.glob 108)) [.sub (.var 2) (.var 5) (.con (.bl true))] []]]]
theorem one_round (g : BG G) (f172 : G.defs 172 = some d172) (hfu : 10000000 ≤ G.fuel) (h : DAt S s n m r st) (k : Nat) (cs : D) {c : Nat} {t : Bt} (d : Den st.ns c t) {f : List Nat} (hc : Closed st.ns f) (hf : f.length + t.size ≤ 2000000) (ts : t.size ≤ 2000000) (more : List Cell) (x4 x5 x6 x7 : Option Vl) :
    ∃ y4 y5 y6 y7, rcB G (k + 1) [some (.p s), some (.d cs), some (.p S.length), some (.d (.int (c : Int))), x4, x5, x6, x7] (S ++ .dct false (fdK f) :: more) =
      .nx [some (.p s), some (.d cs), some (.p S.length), some (.d (.int (c : Int))), y4, y5, y6, y7] (S ++ .dct false (fdK (walkT st.ns t c f)) :: (more ++ [.lst []])) := by
  have ls := lt_of_get h.hs
  have ln := lt_of_get h.hn
  have lm := lt_of_get h.hm
  have lr := lt_of_get h.hr
  have hT : DAt (S ++ .dct false (fdK f) :: (more ++ [.lst [.d (.int (c : Int))]])) s n m r st := h.apps
  have q : Rk (S ++ .dct false (fdK f) :: (more ++ [.lst [.d (.int (c : Int))]])) S.length (S.length + (more.length + 1)) s n m r := ⟨by simp, by simp, by omega, ⟨by omega, by omega, by omega, by omega⟩, ⟨by omega, by omega, by omega, by omega⟩⟩
  obtain ⟨fu', y5, y6, y7, hle, e⟩ := proc g f172 q hT k cs (some (.d (.int (c : Int)))) t c f [] d hc (by omega) (by simp; omega) x5 x6 x7 (G.fuel - 3 * t.size)
  have st1 : stoR (S ++ .dct false (fdK f) :: (more ++ [.lst [.d (.int (c : Int))]])) S.length (S.length + (more.length + 1)) f ([] ++ [c]) = S ++ .dct false (fdK f) :: (more ++ [.lst [.d (.int (c : Int))]]) := by
    have a1 : (S ++ .dct false (fdK f) :: (more ++ [Cell.lst [.d (.int (c : Int))]])).set S.length (.dct false (fdK f)) = S ++ .dct false (fdK f) :: (more ++ [.lst [.d (.int (c : Int))]]) := set_same (by simp)
    unfold stoR
    rw [a1]
    exact set_same (by simp; rfl)
  have st2 : stoR (S ++ .dct false (fdK f) :: (more ++ [.lst [.d (.int (c : Int))]])) S.length (S.length + (more.length + 1)) (walkT st.ns t c f) [] = S ++ .dct false (fdK (walkT st.ns t c f)) :: (more ++ [.lst []]) := by
    unfold stoR
    simp
  rw [st1, st2, show G.fuel - 3 * t.size + 3 * t.size = G.fuel by omega] at e
  refine ⟨some (.p (S.length + (more.length + 1))), y5, y6, y7, ?_⟩
  obtain ⟨fu'', rfl⟩ : ∃ j, fu' = j + 1 := ⟨fu' - 1, by omega⟩
  have stop : wh G (k + 1) (fu'' + 1) (envR s cs S.length (some (.d (.int (c : Int)))) (S.length + (more.length + 1)) y5 y6 y7) (S ++ .dct false (fdK (walkT st.ns t c f)) :: (more ++ [.lst []])) = .nx (envR s cs S.length (some (.d (.int (c : Int)))) (S.length + (more.length + 1)) y5 y6 y7) (S ++ .dct false (fdK (walkT st.ns t c f)) :: (more ++ [.lst []])) := by
    unfold wh
    rw [whl_s]
    have aP : (S ++ .dct false (fdK (walkT st.ns t c f)) :: (more ++ [Cell.lst []]))[S.length + (more.length + 1)]? = some (.lst []) := by simp
    have htru : tru (.p (S.length + (more.length + 1))) (S ++ .dct false (fdK (walkT st.ns t c f)) :: (more ++ [.lst []])) = .ok false (S ++ .dct false (fdK (walkT st.ns t c f)) :: (more ++ [.lst []])) := by
      simp [tru, truthy]
    simp [envR, htru, kWh_f]
  rw [stop] at e
  simp [envR] at e
  simp [rcB, e]
theorem reached_run (g : BG G) (f171 : G.defs 171 = some d171) (f172 : G.defs 172 = some d172) (hfu : 10000000 ≤ G.fuel) (h : DAt S s n m r st) (k : Nat) {W : Nat} {cts : List (Bt × Nat)} (hd : ∀ p ∈ cts, Den st.ns p.2 p.1 ∧ p.1.size ≤ W) (hW : cts.length * W ≤ 1000000) (hW2 : W ≤ 1000000) :
    ∃ more, run G (k + 2) 171 [.p s, .d (.lst (cts.map fun p => encN p.2))] S = .ok (.d (.lst ((walkA st.ns cts []).map encN))) (S ++ more) ∧ Closed st.ns (walkA st.ns cts []) ∧ (walkA st.ns cts []).Nodup ∧ (walkA st.ns cts []).length ≤ cts.length * W := by
  rw [run_keep (d := d171) f171 rfl rfl]
  have loop : ∀ (cts : List (Bt × Nat)) (cs : D) (f : List Nat) (more : List Cell) (x3 x4 x5 x6 x7 : Option Vl), (∀ p ∈ cts, Den st.ns p.2 p.1 ∧ p.1.size ≤ W) → Closed st.ns f → f.Nodup → f.length + cts.length * W ≤ 1000000 →
      ∃ more' y3 y4 y5 y6 y7, fors (rcB G (k + 1)) (.var 3) (cts.map fun p => .d (encN p.2)) [some (.p s), some (.d cs), some (.p S.length), x3, x4, x5, x6, x7] (S ++ .dct false (fdK f) :: more) = .nx [some (.p s), some (.d cs), some (.p S.length), y3, y4, y5, y6, y7] (S ++ .dct false (fdK (walkA st.ns cts f)) :: more') ∧ Closed st.ns (walkA st.ns cts f) ∧ (walkA st.ns cts f).Nodup ∧ (walkA st.ns cts f).length ≤ f.length + cts.length * W := by
    intro cts
    induction cts with
    | nil => intro cs f more x3 x4 x5 x6 x7 _ hc hn _; exact ⟨more, x3, x4, x5, x6, x7, rfl, hc, hn, by simp [walkA]⟩
    | cons p cts ih =>
      intro cs f more x3 x4 x5 x6 x7 hp hc hn hw
      simp only [List.length_cons, Nat.add_mul, Nat.one_mul] at hw ⊢
      obtain ⟨d, sz⟩ := hp p (by simp)
      obtain ⟨y4, y5, y6, y7, e⟩ := one_round g f172 hfu h k cs d hc (by omega) (by omega) more x4 x5 x6 x7
      have wl := walk_len p.1 p.2 f d
      obtain ⟨more', z3, z4, z5, z6, z7, e2, c2, n2, l2⟩ := ih cs (walkT st.ns p.1 p.2 f) (more ++ [.lst []]) (some (.d (encN p.2))) y4 y5 y6 y7 (fun q hq => hp q (List.mem_cons_of_mem _ hq)) (walk_closed _ _ _ d hc) (walk_nodup _ _ _ d hn) (by omega)
      refine ⟨more', z3, z4, z5, z6, z7, ?_, c2, n2, Nat.le_trans l2 (by omega)⟩
      rw [List.map_cons, fors_var]
      have e' : rcB G (k + 1) ([some (.p s), some (.d cs), some (.p S.length), x3, x4, x5, x6, x7].set 3 (some (.d (encN p.2)))) (S ++ .dct false (fdK f) :: more) = _ := e
      rw [e', forNx_nx]
      exact e2
  obtain ⟨more', y3, y4, y5, y6, y7, e, c2, n2, l2⟩ := loop cts (.lst (cts.map fun p => encN p.2)) [] [] none none none none none hd (by intro c hc; cases hc) (by simp) (by simp; omega)
  refine ⟨.dct false (fdK (walkA st.ns cts [])) :: more', ?_, c2, n2, by simpa using l2⟩
  simp only [fdK, List.map_nil] at e
  have hl : (walkA st.ns cts []).length ≤ 16777216 := by
    simp at l2; omega
  have hk : keysOf (.p S.length) (S ++ .dct false (fdK (walkA st.ns cts [])) :: more') = some ((walkA st.ns cts []).map encN) := by
    simp [keysOf, fdK, Function.comp]
  have hq : seqOf (.p S.length) (S ++ .dct false (fdK (walkA st.ns cts [])) :: more') = none := by simp [seqOf]
  change fors (rcB G (k + 1)) (.var 3) (cts.map (Vl.d ∘ fun p => encN p.2)) _ _ = .nx _ (S ++ .dct false (fdK (walkA st.ns cts [])) :: more') at e
  simp [d171, b171, e, bList, hq, hk, hl]
end
end Z
end

section
set_option maxHeartbeats 2000000
set_option maxRecDepth 10000
/-! B10: what the nodes reached are; what a condition depends on. -/
namespace Z
open BD
def occ : Bt → Int → Prop
  | .leaf _, _ => False
  | .node x l r, e => e = x ∨ occ l e ∨ occ r e
theorem Wt.occ_mem {E : List Int} {t : Bt} (h : Wt E t) : ∀ {e : Int}, occ t e → e ∈ E := by
  induction h with
  | leaf => intro e z; exact z.elim
  | skip _ ih => intro e z; exact List.mem_cons_of_mem _ (ih z)
  | node _ _ _ i1 i2 =>
    intro e z
    rcases z with z | z | z
    · subst z; simp
    · exact List.mem_cons_of_mem _ (i1 z)
    · exact List.mem_cons_of_mem _ (i2 z)
theorem not_occ {t : Bt} : ∀ {e : Int}, ¬ occ t e → ∀ (ρ : Int → Bool) (b : Bool), t.val (upB ρ e b) = t.val ρ := by
  induction t with
  | leaf b => intro _ _ _ _; rfl
  | node x l r il ir =>
    intro e h ρ b
    have h1 : e ≠ x := fun z => h (.inl z)
    have h2 := il (fun z => h (.inr (.inl z))) ρ b
    have h3 := ir (fun z => h (.inr (.inr z))) ρ b
    rw [val_node, val_node, h2, h3]
    have : upB ρ e b x = ρ x := by unfold upB; rw [if_neg (Ne.symm h1)]
    rw [this]
/-- a reduced diagram depends on what it asks about -/
theorem occ_dep {E : List Int} {t : Bt} (ha : Asc E) (h : Wt E t) : ∀ {e : Int}, occ t e → ∃ ρ, t.val (upB ρ e true) ≠ t.val (upB ρ e false) := by
  induction h with
  | leaf => intro e z; exact z.elim
  | skip _ ih => intro e z; exact ih (List.pairwise_cons.mp ha).2 z
  | @node E x l r hl hr hne i1 i2 =>
    intro e z
    have ha' := List.pairwise_cons.mp ha
    have hx : x ∉ E := fun z => Int.lt_irrefl x (ha'.1 x z)
    have below : ∀ {u : Bt} {b : Bool}, Wt E u → (∃ ρ, u.val (upB ρ e true) ≠ u.val (upB ρ e false)) → e ∈ E → (∀ ρ, ρ x = b → (Bt.node x l r).val ρ = u.val ρ) → ∃ ρ, (Bt.node x l r).val (upB ρ e true) ≠ (Bt.node x l r).val (upB ρ e false) := fun {u b} hu ⟨ρ, hρ⟩ he hb => by
      have hex : e ≠ x := fun z => hx (by rw [← z]; exact he)
      refine ⟨upB ρ x b, ?_⟩
      have c : ∀ d : Bool, (Bt.node x l r).val (upB (upB ρ x b) e d) = u.val (upB ρ e d) := fun d => by
        rw [hb _ (by unfold upB; rw [if_neg (Ne.symm hex), if_pos rfl])]
        exact hu.val_congr fun a ha => by
          have : a ≠ x := fun z => hx (by rw [← z]; exact ha)
          unfold upB
          by_cases y : a = e
          · rw [if_pos y, if_pos y]
          · rw [if_neg y, if_neg y, if_neg this]
      rw [c, c]; exact hρ
    rcases z with z | z | z
    · subst z
      apply Classical.byContradiction
      intro k
      apply hne
      refine Wt.canon ha'.2 hl hr fun ρ => ?_
      have : ¬ (Bt.node e l r).val (upB ρ e true) ≠ (Bt.node e l r).val (upB ρ e false) := fun y => k ⟨ρ, y⟩
      have := Classical.not_not.mp this
      rw [val_node, val_node, hl.val_up hx, hr.val_up hx, hl.val_up hx, hr.val_up hx] at this
      simpa [upB] using this.symm
    · exact below (b := false) hl (i1 ha'.2 z) (hl.occ_mem z) fun ρ hρ => by rw [val_node, hρ]; rfl
    · exact below (b := true) hr (i2 ha'.2 z) (hr.occ_mem z) fun ρ hρ => by rw [val_node, hρ]; rfl
theorem occ_iff {E : List Int} {t : Bt} (ha : Asc E) (h : Wt E t) (e : Int) : occ t e ↔ ∃ ρ, t.val (upB ρ e true) ≠ t.val (upB ρ e false) := by
  constructor
  · exact occ_dep ha h
  · intro ⟨ρ, k⟩
    apply Classical.byContradiction
    intro z
    apply k
    rw [not_occ z, not_occ z]
theorem Wt.size {E : List Int} {t : Bt} (h : Wt E t) : t.size + 1 ≤ 2 * pw E := by
  induction h with
  | leaf => have := pw_pos ‹List Int›; simp only [Bt.size]; omega
  | skip _ ih => rw [pw_cons]; omega
  | node _ _ _ i1 i2 => rw [pw_cons]; simp only [Bt.size]; omega
theorem Wt.split {E : List Int} {t : Bt} (h : Wt E t) : ∀ {x : Int} {l r : Bt}, t = .node x l r → ∃ P E', E = P ++ x :: E' ∧ Wt E' l ∧ Wt E' r ∧ l ≠ r := by
  induction h with
  | leaf => intro _ _ _ z; cases z
  | @skip E y t _ ih =>
    intro x l r z
    obtain ⟨P, E', e, a, b, c⟩ := ih z
    exact ⟨y :: P, E', by rw [e]; rfl, a, b, c⟩
  | @node E y l r hl hr hne _ _ => intro _ _ _ z; cases z; exact ⟨[], E, rfl, hl, hr, hne⟩
/-- the entry asked at a node -/
def entN (ns : List Nd) (c : Nat) : Int := ((ns[c - 2]?).getD (0, 0, 0)).1
theorem entN_nd {ns : List Nd} {i : Nat} {x : Nd} (h : ns[i]? = some x) : entN ns (i + 2) = x.1 := by
  unfold entN; rw [show i + 2 - 2 = i by omega, h]; rfl
/-- all that the walk adds stands for parts of the tree -/
theorem walk_sub {ns : List Nd} : ∀ (t : Bt) (c : Nat) (f : List Nat), Den ns c t → ∀ x ∈ walkT ns t c f, x ∈ f ∨ (2 ≤ x ∧ ∃ u, Den ns x u ∧ ∀ e, occ u e → occ t e)
  | .leaf b, c, f, _, x, hx => .inl hx
  | .node e l r, c, f, d, x, hx => by
    have dd := d
    obtain ⟨i, a, b, rfl, h1, h2, h3⟩ := d.node_inv
    rw [walk_node h1] at hx
    split at hx
    · exact .inl hx
    · rcases List.mem_append.mp hx with hx | hx
      · rcases walk_sub r b _ h3 x hx with hx | ⟨h2x, u, du, ou⟩
        · rcases walk_sub l a f h2 x hx with hx | ⟨h2x, u, du, ou⟩
          · exact .inl hx
          · exact .inr ⟨h2x, u, du, fun e z => .inr (.inl (ou e z))⟩
        · exact .inr ⟨h2x, u, du, fun e z => .inr (.inr (ou e z))⟩
      · rw [List.mem_singleton.mp hx]; exact .inr ⟨by omega, _, dd, fun _ z => z⟩
/-- all parts are there -/
theorem closed_occ {ns : List Nd} {f : List Nat} (hc : Closed ns f) : ∀ (t : Bt) (c : Nat), Den ns c t → (2 ≤ c → c ∈ f) → ∀ e, occ t e → ∃ x ∈ f, entN ns x = e
  | .leaf b, c, _, _, e, z => z.elim
  | .node x l r, c, d, hf, e, z => by
    obtain ⟨i, a, b, rfl, h1, h2, h3⟩ := d.node_inv
    have hi := hf (by omega)
    rcases z with z | z | z
    · exact ⟨_, hi, by rw [entN_nd h1, z]⟩
    · exact closed_occ hc l a h2 (fun h => (hc _ hi).2 _ ((mem_kids h1).mpr ⟨.inl rfl, by omega⟩)) e z
    · exact closed_occ hc r b h3 (fun h => (hc _ hi).2 _ ((mem_kids h1).mpr ⟨.inr rfl, by omega⟩)) e z
/-- parts stand before -/
def Ord (ns : List Nd) (f : List Nat) : Prop := ∀ pre x post, f = pre ++ x :: post → 2 ≤ x ∧ x ∉ pre ∧ ∀ p ∈ kids ns x, p ∈ pre
theorem Ord.snoc {ns : List Nd} {f : List Nat} (h : Ord ns f) {x : Nat} (h2 : 2 ≤ x) (hx : x ∉ f) (hk : ∀ p ∈ kids ns x, p ∈ f) : Ord ns (f ++ [x]) := fun pre y post e => by
  rcases List.eq_nil_or_concat post with rfl | ⟨post', z, rfl⟩
  · have := List.append_inj' (s₁ := f) (t₁ := [x]) (s₂ := pre) (t₂ := [y]) (by simpa using e) rfl
    obtain ⟨rfl, h3⟩ := this
    cases h3
    exact ⟨h2, hx, hk⟩
  · have := List.append_inj' (s₁ := f) (t₁ := [x]) (s₂ := pre ++ y :: post') (t₂ := [z]) (by simpa using e) rfl
    exact h pre y post' this.1
theorem walk_ord {ns : List Nd} : ∀ (t : Bt) (c : Nat) (f : List Nat), Den ns c t → Ord ns f → Ord ns (walkT ns t c f)
  | .leaf b, c, f, _, h => h
  | .node e l r, c, f, d, h => by
    have dd := d
    obtain ⟨i, a, b, rfl, h1, h2, h3⟩ := d.node_inv
    rw [walk_node h1]
    split
    · exact h
    · rename_i hc
      refine (walk_ord r b _ h3 (walk_ord l a f h2 h)).snoc (by omega) (fun hy => ?_) (fun p hp => ?_)
      · obtain ⟨m1, e1, p1⟩ := walk_add l a f h2
        obtain ⟨m2, e2, p2⟩ := walk_add r b (walkT ns l a f) h3
        rw [e2, e1] at hy
        simp only [List.mem_append] at hy
        rcases hy with (hy | hy) | hy
        · exact hc hy
        · obtain ⟨w, du, su⟩ := p1 _ hy
          have := du.fn dd
          subst this
          simp only [Bt.size] at su; omega
        · obtain ⟨w, du, su⟩ := p2 _ hy
          have := du.fn dd
          subst this
          simp only [Bt.size] at su; omega
      · obtain ⟨hp, h2p⟩ := (mem_kids h1).mp hp
        obtain ⟨m2, e2, _⟩ := walk_add r b (walkT ns l a f) h3
        rcases hp with rfl | rfl
        · rw [e2]; exact List.mem_append_left _ (walk_mem h2 (by omega))
        · exact walk_mem h3 (by omega)
theorem walk_ord0 {ns : List Nd} {t : Bt} {c : Nat} (d : Den ns c t) : Ord ns (walkT ns t c []) := walk_ord t c [] d fun pre x post e => by
  have := congrArg List.length e
  simp at this
end Z
end

section
set_option maxHeartbeats 2000000
set_option maxRecDepth 10000
/-! B11: depends, restrict, implies, helps, hurts. -/
namespace Z
namespace BD
def b161 : List Z.St := [.ret (.ix (.fld (.var 0) 3 [1]) (.var 1))]
def d161 : Df := { slots := 2, params := 2, body := b161, keep := true, alone := false, init := false }
def b169 : List Z.St := [.ret (.cmp (.eq) (.meth (.var 0) [(1, 164)] [.var 1, .meth (.var 0) [(1, 167)] [.var 2]]) (.glob 107))]
def d169 : Df := { slots := 3, params := 3, body := b169, keep := true, alone := false, init := false }
def b174 : List Z.St := [.ret (.sc false (.ix (.ix (.fld (.var 0) 3 [1]) (.var 2)) (.con (.int 0))) (.var 2) [2] (.seq) [.meth (.var 0) [(1, 171)] [.lst false [.var 1]]] none)]
def d174 : Df := { slots := 3, params := 2, body := b174, keep := true, alone := false, init := false }
def b175 : List Z.St := [.asg (.var 4) (.dct false true [.glob 107, .glob 107, .glob 108, .glob 108]), .fors (.var 5) (.seq) [.meth (.var 0) [(1, 171)] [.lst false [.var 1]]] [.asg (.tup [.var 6, .var 7, .var 8]) (.ix (.fld (.var 0) 3 [1]) (.var 5)), .ifs (.cmp (.eq) (.var 6) (.var 2)) [.sub (.var 4) (.var 5) (.ite (.var 3) (.ix (.var 4) (.var 8)) (.ix (.var 4) (.var 7)))] [.sub (.var 4) (.var 5) (.meth (.var 0) [(1, 159)] [.var 6, .ix (.var 4) (.var 7), .ix (.var 4) (.var 8)])]], .ret (.ix (.var 4) (.var 1))]
def d175 : Df := { slots := 9, params := 4, body := b175, keep := true, alone := false, init := false }
def b176 : List Z.St := [.ret (.not (.meth (.var 0) [(1, 169)] [.meth (.var 0) [(1, 175)] [.var 1, .var 2, .con (.bl true)], .meth (.var 0) [(1, 175)] [.var 1, .var 2, .con (.bl false)]]))]
def d176 : Df := { slots := 3, params := 3, body := b176, keep := true, alone := false, init := false }
def b177 : List Z.St := [.ret (.not (.meth (.var 0) [(1, 169)] [.meth (.var 0) [(1, 175)] [.var 1, .var 2, .con (.bl false)], .meth (.var 0) [(1, 175)] [.var 1, .var 2, .con (.bl true)]]))]
def d177 : Df := { slots := 3, params := 3, body := b177, keep := true, alone := false, init := false }
end BD
open BD
theorem asc_unique : ∀ {a b : List Int}, Asc a → Asc b → (∀ x, x ∈ a ↔ x ∈ b) → a = b
  | [], [], _, _, _ => rfl
  | [], y :: b, _, _, h => by have := (h y).mpr (by simp); cases this
  | x :: a, [], _, _, h => by have := (h x).mp (by simp); cases this
  | x :: a, y :: b, ha, hb, h => by
    have ha' := List.pairwise_cons.mp ha
    have hb' := List.pairwise_cons.mp hb
    have e : x = y := by
      have h1 : x ∈ y :: b := (h x).mp (by simp)
      have h2 : y ∈ x :: a := (h y).mpr (by simp)
      rcases List.mem_cons.mp h1 with e | e
      · exact e
      · rcases List.mem_cons.mp h2 with k | k
        · exact k.symm
        · have := hb'.1 x e; have := ha'.1 y k; omega
    subst e
    rw [asc_unique ha'.2 hb'.2 fun z => ?_]
    have hz := h z
    constructor
    · intro m
      rcases List.mem_cons.mp (hz.mp (List.mem_cons_of_mem _ m)) with e | e
      · subst e; exact absurd (ha'.1 z m) (Int.lt_irrefl z)
      · exact e
    · intro m
      rcases List.mem_cons.mp (hz.mpr (List.mem_cons_of_mem _ m)) with e | e
      · subst e; exact absurd (hb'.1 z m) (Int.lt_irrefl z)
      · exact e
theorem asc_len {a E : List Int} (ha : Asc a) (hE : Asc E) (h : ∀ x ∈ a, x ∈ E) : a.length ≤ E.length := by
  have : a = E.filter fun e => decide (e ∈ a) := asc_unique ha (hE.filter _) fun x => by
    simp only [List.mem_filter, decide_eq_true_eq]
    exact ⟨fun m => ⟨h x m, m⟩, fun m => m.2⟩
  rw [this]
  exact List.length_filter_le _ _
section
variable {G : Gm} {S : Sto} {s n m r : Nat} {st : Bd} {E : List Int}
theorem ix_ndc (h : DAt S s n m r st) {i : Nat} {x : Nd} (h1 : st.ns[i]? = some x) : index (.p n) (.d (.int ((i : Int) + 2))) S = .ok (.d (nodeD x)) S := by
  have := ix_nd h h1
  rwa [show ((i + 2 : Nat) : Int) = (i : Int) + 2 by omega] at this
/-- the reached ones of one condition -/
theorem reached1 (g : BG G) (f171 : G.defs 171 = some d171) (f172 : G.defs 172 = some d172) (hfu : 10000000 ≤ G.fuel) (h : DAt S s n m r st) (k : Nat) {c : Nat} {t : Bt} (d : Den st.ns c t) (w : Wt E t) (hE : E.length ≤ 10) :
    ∃ more, run G (k + 2) 171 [.p s, .d (.lst [encN c])] S = .ok (.d (.lst ((walkT st.ns t c []).map encN))) (S ++ more) ∧ Closed st.ns (walkT st.ns t c []) ∧ (walkT st.ns t c []).length ≤ t.size ∧ t.size ≤ 2048 := by
  have hp : pw E ≤ 1024 := Nat.pow_le_pow_right (n := 2) (by decide) hE
  have hs := w.size
  obtain ⟨more, e, c2, n2, l2⟩ := reached_run g f171 f172 hfu h k (W := 2048) (cts := [(t, c)]) (by simp; exact ⟨d, by omega⟩) (by simp) (by decide)
  exact ⟨more, e, c2, by have := walk_len t c [] d; simpa using this, by omega⟩
theorem turnsG_ent {f : Env → Sto → Res (Option Vl)} {i : Nat} {ρ : Env} {S : Sto} (ent : Nat → Int) (hE : Asc E) (hl : E.length ≤ 60) : ∀ (xs : List Nat) (acc : List Int), (∀ x ∈ xs, f (ρ.set i (some (.d (encN x)))) S = .ok (some (.d (.int (ent x)))) S) → Asc acc → (∀ e ∈ acc, e ∈ E) → (∀ x ∈ xs, ent x ∈ E) →
    ∃ L, turnsG putI f (.var i) ρ (xs.map (Vl.d ∘ encN)) acc S = .ok L S ∧ Asc L ∧ ∀ e, e ∈ L ↔ e ∈ acc ∨ ∃ x ∈ xs, ent x = e
  | [], acc, _, ha, _, _ => ⟨acc, rfl, ha, by simp⟩
  | x :: xs, acc, hf, ha, hm, hx => by
    have hlen := asc_len ha hE hm
    obtain ⟨L, e, aL, mL⟩ := turnsG_ent ent hE hl xs (sins (ent x) acc) (fun y hy => hf y (List.mem_cons_of_mem _ hy)) (sins_sorted ha) (fun e he => by
      rcases sins_mem.mp he with he | he
      · rw [he]; exact hx x (by simp)
      · exact hm e he) (fun y hy => hx y (List.mem_cons_of_mem _ hy))
    refine ⟨L, ?_, aL, fun e => ?_⟩
    · rw [List.map_cons]
      unfold turnsG
      have h63 : acc.length < 63 := by omega
      simp only [Function.comp, bindT_var, hf x (by simp), putI, h63, decide_true, if_true]
      exact e
    · rw [mL, sins_mem]
      simp only [List.mem_cons, exists_eq_or_imp]
      constructor
      · rintro ((h | h) | h)
        · exact .inr (.inl h.symm)
        · exact .inl h
        · exact .inr (.inr h)
      · rintro (h | h | h)
        · exact .inl (.inr h)
        · exact .inl (.inl h.symm)
        · exact .inr h
theorem den_walk {ns : List Nd} {t : Bt} {c : Nat} (d : Den ns c t) {x : Nat} (hx : x ∈ walkT ns t c []) : ∃ i y u v, x = i + 2 ∧ ns[i]? = some (y, u, v) ∧ ∃ l r, Den ns u l ∧ Den ns v r ∧ Den ns x (.node y l r) ∧ ∀ e, occ (.node y l r) e → occ t e := by
  rcases walk_sub t c [] d x hx with h | ⟨h2, u, du, ou⟩
  · cases h
  · cases u with
    | leaf b => have := du.leaf_inv; revert this; split <;> omega
    | node e l r =>
      have dd := du
      obtain ⟨i, a, b, rfl, k1, k2, k3⟩ := du.node_inv
      exact ⟨i, e, a, b, rfl, k1, l, r, k2, k3, dd, ou⟩
theorem depends_run (g : BG G) (f171 : G.defs 171 = some d171) (f172 : G.defs 172 = some d172) (f174 : G.defs 174 = some d174) (hfu : 10000000 ≤ G.fuel) (h : DAt S s n m r st) (hE : Asc E) (k : Nat) {c : Nat} {t : Bt} (d : Den st.ns c t) (w : Wt E t) (hE10 : E.length ≤ 10) :
    ∃ L more, run G (k + 3) 174 [.p s, .d (.int (c : Int))] S = .ok (.d (.lst (L.map .int))) (S ++ more) ∧ Asc L ∧ ∀ e, e ∈ L ↔ occ t e := by
  obtain ⟨more, e, hc, hl, hl2⟩ := reached1 g f171 f172 hfu h k d w hE10
  have hD : DAt (S ++ more) s n m r st := h.apps
  have hs := h.hs
  have hs2 := hD.hs
  obtain ⟨L, eL, aL, mL⟩ := turnsG_ent (f := lcB G (run G (k + 2)) none (.ix (.ix (.fld (.var 0) 3 [1]) (.var 2)) (.con (.int 0)))) (i := 2) (ρ := [some (.p s), some (.d (.int (c : Int))), none]) (S := S ++ more) (entN st.ns) hE (by omega) (walkT st.ns t c []) [] (fun x hx => by
    obtain ⟨i, y, u, v, rfl, k1, _⟩ := den_walk d hx
    have i1 := ix_ndc hD k1
    have i0 := ixn (S := S ++ more) (y, u, v) 0 (by decide)
    rw [entN_nd k1]
    simp at i0
    simp [-index_p, encN, hs2, i1, i0]) (by simp [Asc]) (by simp) (fun x hx => by
    obtain ⟨i, y, u, v, rfl, k1, l, r, _, _, dd, ou⟩ := den_walk d hx
    rw [entN_nd k1]
    exact w.occ_mem (ou y (.inl rfl)))
  refine ⟨L, more, ?_, aL, fun x => ?_⟩
  · have hL : L.length ≤ 16777216 := by
      have := asc_len aL hE fun x hx => by
        rw [mL] at hx
        rcases hx with hx | ⟨y, hy, rfl⟩
        · cases hx
        · obtain ⟨i, y, u, v, rfl, k1, l, r, _, _, dd, ou⟩ := den_walk d hy
          rw [entN_nd k1]
          exact w.occ_mem (ou y (.inl rfl))
      omega
    rw [run_keep (d := d174) f174 rfl rfl]
    have hp : pures (L.map fun i => Vl.d (.int i)) = some (L.map .int) := pures_mapf _ _
    simp [encN] at e
    simp [-index_p, d174, b174, hs, e, eL, hL, encN]
  · rw [mL]
    constructor
    · rintro (hx | ⟨y, hy, rfl⟩)
      · cases hx
      · obtain ⟨i, y, u, v, rfl, k1, l, r, _, _, dd, ou⟩ := den_walk d hy
        rw [entN_nd k1]
        exact ou y (.inl rfl)
    · intro z
      obtain ⟨y, hy, e⟩ := closed_occ hc t c d (fun h2 => walk_mem d h2) x z
      exact .inr ⟨y, hy, e⟩
/-! ### restrict -/
def mkB (x : Int) (l r : Bt) : Bt := if l = r then l else .node x l r
def rs (e : Int) (b : Bool) : Bt → Bt
  | .leaf a => .leaf a
  | .node x l r => if x = e then (if b then rs e b r else rs e b l) else mkB x (rs e b l) (rs e b r)
theorem mkB_val (x : Int) (l r : Bt) (ρ : Int → Bool) : (mkB x l r).val ρ = if ρ x then r.val ρ else l.val ρ := by
  unfold mkB
  split
  · rename_i h; subst h; split <;> rfl
  · rfl
theorem mkB_wt {E : List Int} {x : Int} {l r : Bt} (hl : Wt E l) (hr : Wt E r) : Wt (x :: E) (mkB x l r) := by
  unfold mkB
  split
  · exact .skip hl
  · exact .node hl hr ‹_›
theorem rs_wt {E : List Int} {t : Bt} (h : Wt E t) (e : Int) (b : Bool) : Wt E (rs e b t) := by
  induction h with
  | leaf => exact .leaf
  | skip _ ih => exact .skip ih
  | node _ _ _ i1 i2 =>
    unfold rs
    split
    · split
      · exact .skip i2
      · exact .skip i1
    · exact mkB_wt i1 i2
theorem rs_val (e : Int) (b : Bool) : ∀ (t : Bt) (ρ : Int → Bool), (rs e b t).val ρ = t.val (upB ρ e b)
  | .leaf _, _ => rfl
  | .node x l r, ρ => by
    have h1 := rs_val e b l ρ
    have h2 := rs_val e b r ρ
    unfold rs
    rw [val_node]
    by_cases h : x = e
    · subst h
      rw [if_pos rfl]
      have : upB ρ x b x = b := by unfold upB; rw [if_pos rfl]
      rw [this]
      cases b
      · exact h1
      · exact h2
    · rw [if_neg h, mkB_val, h1, h2]
      have : upB ρ e b x = ρ x := by unfold upB; rw [if_neg h]
      rw [this]
def rsV (pr : List (Nat × Nat)) : List (D × Vl) := pr.map fun p => (encN p.1, .d (encN p.2))
def look2 (pr : List (Nat × Nat)) (c : Nat) : Option Nat := (pr.find? fun p => decide (p.1 = c)).map (·.2)
theorem find_rsV (pr : List (Nat × Nat)) (c : Nat) : kvFind (rsV pr) (.int (c : Int)) = (look2 pr c).map fun d => .d (.int (d : Int)) := by
  unfold kvFind rsV look2
  induction pr with
  | nil => rfl
  | cons p pr ih =>
    simp only [List.map_cons, List.find?_cons, encN, eqv_int]
    by_cases h : p.1 = c
    · simp [h]
    · have h' : ¬ ((p.1 : Int) = (c : Int)) := by omega
      simp only [h', h, decide_false]
      exact ih
theorem put_rsV {pr : List (Nat × Nat)} {c : Nat} (h : look2 pr c = none) (d : Nat) : kvPut (rsV pr) (.int (c : Int)) (.d (.int (d : Int))) = rsV (pr ++ [(c, d)]) := by
  rw [put_new (by rw [find_rsV, h]; rfl)]
  simp [rsV, encN]
theorem look2_snoc (pr : List (Nat × Nat)) (c d x : Nat) : look2 (pr ++ [(c, d)]) x = match look2 pr x with
    | some v => some v
    | none => if c = x then some d else none := by
  unfold look2
  rw [List.find?_append]
  cases pr.find? (fun p => decide (p.1 = x)) with
  | some v => rfl
  | none => by_cases h : c = x <;> simp [h]
/-- what is known so far -/
structure Rs (ns0 : List Nd) (st : Bd) (e : Int) (b : Bool) (pr : List (Nat × Nat)) (done : List Nat) : Prop where
  has : ∀ c u, Den ns0 c u → (c < 2 ∨ c ∈ done) → ∃ d, look2 pr c = some d ∧ Den st.ns d (rs e b u)
  new : ∀ c, 2 ≤ c → c ∉ done → look2 pr c = none
theorem Rs.zero (ns0 : List Nd) (st : Bd) (e : Int) (b : Bool) : Rs ns0 st e b [(0, 0), (1, 1)] [] :=
  ⟨fun c u d h => (by
    rcases h with h | h
    · have : c = 0 ∨ c = 1 := by omega
      rcases this with rfl | rfl
      · rw [d.zero_inv]; exact ⟨0, rfl, .zero⟩
      · rw [d.one_inv]; exact ⟨1, rfl, .one⟩
    · cases h), fun c h _ => by
    have h0 : ¬ (0 = c) := by omega
    have h1 : ¬ (1 = c) := by omega
    simp [look2, h0, h1]⟩
theorem Rs.step {ns0 : List Nd} {st st' : Bd} {e : Int} {b : Bool} {pr : List (Nat × Nat)} {done : List Nat} (h : Rs ns0 st e b pr done) (le : st.Le st') {x d : Nat} {u : Bt} (hx : 2 ≤ x) (hn : x ∉ done) (dx : Den ns0 x u) (dd : Den st'.ns d (rs e b u)) : Rs ns0 st' e b (pr ++ [(x, d)]) (done ++ [x]) :=
  ⟨fun c v dc hc => by
    by_cases k : c < 2 ∨ c ∈ done
    · obtain ⟨w, h1, h2⟩ := h.has c v dc k
      exact ⟨w, by rw [look2_snoc, h1], le.den h2⟩
    · have hcx : c = x := by
        rcases hc with hc | hc
        · exact absurd (.inl hc) k
        · rcases List.mem_append.mp hc with hc | hc
          · exact absurd (.inr hc) k
          · exact List.mem_singleton.mp hc
      subst hcx
      rw [dc.fn dx]
      exact ⟨d, by rw [look2_snoc, h.new c hx hn]; simp, dd⟩,
   fun c hc hd => by
    rw [look2_snoc, h.new c hc fun z => hd (List.mem_append_left _ z)]
    have : x ≠ c := fun z => hd (by rw [z]; simp)
    simp [this]⟩
abbrev rsB (G : Gm) (k : Nat) : Env → Sto → RS := exs G (run G k) [.asg (.tup [.var 6, .var 7, .var 8]) (.ix (.fld (.var 0) 3 [1]) (.var 5)), .ifs (.cmp (.eq) (.var 6) (.var 2)) [.sub (.var 4) (.var 5) (.ite (.var 3) (.ix (.var 4) (.var 8)) (.ix (.var 4) (.var 7)))] [.sub (.var 4) (.var 5) (.meth (.var 0) [(1, 159)] [.var 6, .ix (.var 4) (.var 7), .ix (.var 4) (.var 8)])]]
theorem rs_step (g : BG G) {T : Sto} (h : DAt T s n m r st) (hg : Good E st) {ns0 : List Nd} {more : List Nd} (h0 : st.ns = ns0 ++ more) {R : Nat} (q : R ≠ s ∧ R ≠ n ∧ R ≠ m ∧ R ≠ r) {e : Int} {b : Bool} {pr : List (Nat × Nat)} {done : List Nat} (hr : T[R]? = some (.dct false (rsV pr))) (inv : Rs ns0 st e b pr done) (hl : pr.length < 1000000) (hn : st.ns.length < 15000000)
    {i : Nat} {y : Int} {u v : Nat} {l w : Bt} (hi : ns0[i]? = some (y, u, v)) (du : Den ns0 u l) (dv : Den ns0 v w) (hd : i + 2 ∉ done) (hk : ∀ p ∈ kids ns0 (i + 2), p ∈ done) (k c : Nat) (x6 x7 x8 : Option Vl) :
    ∃ d T' st' y6 y7 y8, rsB G (k + 1) [some (.p s), some (.d (.int (c : Int))), some (.d (.int e)), some (.d (.bl b)), some (.p R), some (.d (.int ((i : Int) + 2))), x6, x7, x8] T = .nx [some (.p s), some (.d (.int (c : Int))), some (.d (.int e)), some (.d (.bl b)), some (.p R), some (.d (.int ((i : Int) + 2))), y6, y7, y8] T' ∧
      T'[R]? = some (.dct false (rsV (pr ++ [(i + 2, d)]))) ∧ DAt T' s n m r st' ∧ st.Le st' ∧ Good E st' ∧ Rs ns0 st' e b (pr ++ [(i + 2, d)]) (done ++ [i + 2]) ∧ st'.ns.length ≤ st.ns.length + 1 ∧ st'.mm = st.mm ∧ T.length ≤ T'.length ∧ (∀ j, j < T.length → j ≠ n → j ≠ m → j ≠ r → j ≠ R → T'[j]? = T[j]?) := by
  have hss := h.hs
  have lR := lt_of_get hr
  have hi' : st.ns[i]? = some (y, u, v) := by rw [h0, List.getElem?_append_left (List.getElem?_eq_some_iff.mp hi).1]; exact hi
  have i1 := ix_ndc h hi'
  have ixn0 : ∀ (x : Nd), nodeD x = .tup [.int x.1, .int x.2.1, .int x.2.2] := fun _ => rfl
  have dx : Den ns0 (i + 2) (.node y l w) := .node hi du dv
  have ku : u < 2 ∨ u ∈ done := by
    by_cases z : u < 2
    · exact .inl z
    · exact .inr (hk u ((mem_kids hi).mpr ⟨.inl rfl, by omega⟩))
  have kv : v < 2 ∨ v ∈ done := by
    by_cases z : v < 2
    · exact .inl z
    · exact .inr (hk v ((mem_kids hi).mpr ⟨.inr rfl, by omega⟩))
  obtain ⟨a, la, da⟩ := inv.has u l du ku
  obtain ⟨a', la', da'⟩ := inv.has v w dv kv
  have fu := find_rsV pr u
  have fv := find_rsV pr v
  rw [la] at fu
  rw [la'] at fv
  have hnew := inv.new (i + 2) (by omega) hd
  have hz : (rsV pr).length < 16777216 := by unfold rsV; rw [List.length_map]; omega
  have pu := put_rsV hnew
  have ci : ((i + 2 : Nat) : Int) = (i : Int) + 2 := by omega
  rw [ci] at pu
  have iu : index (.p R) (.d (.int (u : Int))) T = .ok (.d (.int (a : Int))) T := by simp [hr, fu, keyOk, flatKey]
  have iv : index (.p R) (.d (.int (v : Int))) T = .ok (.d (.int (a' : Int))) T := by simp [hr, fv, keyOk, flatKey]
  have st1 : ∀ d : Nat, setItem (.p R) (.d (.int ((i : Int) + 2))) (.d (.int (d : Int))) T = some (T.set R (.dct false (rsV (pr ++ [(i + 2, d)])))) := fun d => by
    rw [setItem_dct hr]; simp [keyOk, flatKey, hz, pu]
  by_cases hy : y = e
  · subst hy
    refine ⟨if b then a' else a, T.set R (.dct false (rsV (pr ++ [(i + 2, if b then a' else a)]))), st, some (.d (.int y)), some (.d (.int (u : Int))), some (.d (.int (v : Int))), ?_, List.getElem?_set_self lR, h.set q.1 q.2.1 q.2.2.1 q.2.2.2, .refl _, hg, inv.step (.refl _) (by omega) hd dx ?_, by omega, rfl, by simp, fun j _ _ _ _ hj => List.getElem?_set_ne (Ne.symm hj)⟩
    · cases b <;> simp [-index_p, rsB, hss, i1, ixn0, iu, iv, st1]
    · unfold rs
      rw [if_pos rfl]
      cases b
      · exact da
      · exact da'
  · obtain ⟨T1, e1, h1, f1⟩ := make_run g h k y a a' (by omega)
    obtain ⟨t0, d0, w0⟩ := hg.den (i + 2) (by have := (List.getElem?_eq_some_iff.mp hi').1; omega)
    have leN : Bd.Le ⟨ns0, []⟩ st := ⟨more, h0⟩
    have et0 : t0 = .node y l w := d0.fn (leN.den dx)
    subst et0
    obtain ⟨P, E', hE, wl, wr, hne⟩ := w0.split rfl
    obtain ⟨g3, le3, mm3, len3, t, dt, wt, vt⟩ := hg.make hE da da' (rs_wt wl e b) (rs_wt wr e b)
    have et : t = rs e b (.node y l w) := by
      have ascE' : Asc (y :: E') := by have := hg.asc; rw [hE] at this; exact (List.pairwise_append.mp this).2.1
      unfold rs
      rw [if_neg hy]
      exact Wt.canon ascE' wt (mkB_wt (rs_wt wl e b) (rs_wt wr e b)) fun ρ => by rw [vt, mkB_val]
    rw [et] at dt
    have r1 : T1[R]? = some (.dct false (rsV pr)) := (f1.at_ R lR q.2.1 q.2.2.1 q.2.2.2).trans hr
    have lR1 := lt_of_get r1
    have st2 : ∀ d : Nat, setItem (.p R) (.d (.int ((i : Int) + 2))) (.d (.int (d : Int))) T1 = some (T1.set R (.dct false (rsV (pr ++ [(i + 2, d)])))) := fun d => by
      rw [setItem_dct r1]; simp [keyOk, flatKey, hz, pu]
    refine ⟨(st.mk' y a a').1, T1.set R (.dct false (rsV (pr ++ [(i + 2, (st.mk' y a a').1)]))), (st.mk' y a a').2, some (.d (.int y)), some (.d (.int (u : Int))), some (.d (.int (v : Int))), ?_, List.getElem?_set_self lR1, h1.set q.1 q.2.1 q.2.2.1 q.2.2.2, le3, g3, inv.step le3 (by omega) hd dx dt, len3, mm3, by rw [List.length_set]; exact f1.len, fun j hj a1 a2 a3 a4 => (List.getElem?_set_ne (Ne.symm a4)).trans (f1.at_ j hj a1 a2 a3)⟩
    have hc1 : clsC (T[s]?) = some 1 := by rw [hss]; rfl
    simp [-index_p, rsB, hss, i1, ixn0, iu, iv, hy, e1, st2]
theorem disp01 (x y : Vl) (S : Sto) : dispDct false true [.d (.int 0), x, .d (.int 1), y] S = .ok (.p S.length) (S ++ [.dct false [(.int 0, x), (.int 1, y)]]) := rfl
theorem restrict_run (g : BG G) (f171 : G.defs 171 = some d171) (f172 : G.defs 172 = some d172) (f175 : G.defs 175 = some d175) (hfu : 10000000 ≤ G.fuel) (h : DAt S s n m r st) (hg : Good E st) (hE10 : E.length ≤ 10) (hn : st.ns.length ≤ 14000000) (k : Nat) {c : Nat} {f : (Int → Bool) → Bool} (hf : Is st E c f) (e : Int) (b : Bool) :
    ∃ (c' : Nat) (S' : Sto) (st' : Bd), run G (k + 3) 175 [.p s, .d (.int (c : Int)), .d (.int e), .d (.bl b)] S = .ok (.d (.int (c' : Int))) S' ∧ Mean S S' s n m r E st st' c' (fun ρ => f (upB ρ e b)) 2048 := by
  obtain ⟨t, d, w, vf⟩ := hf
  have c0 := g.c0
  have c1 := g.c1
  have ls := lt_of_get h.hs
  have ln := lt_of_get h.hn
  have lm := lt_of_get h.hm
  have lr := lt_of_get h.hr
  obtain ⟨more, er, hc, hl, hl2⟩ := reached1 (S := S ++ [.dct false (rsV [(0, 0), (1, 1)])]) g f171 f172 hfu h.apps k d w hE10
  have ord := walk_ord0 d
  have hden : ∀ x ∈ walkT st.ns t c [], ∃ i y u v, x = i + 2 ∧ st.ns[i]? = some (y, u, v) ∧ ∃ l r, Den st.ns u l ∧ Den st.ns v r ∧ Den st.ns x (.node y l r) ∧ ∀ e, occ (.node y l r) e → occ t e := fun x hx => den_walk d hx
  generalize hF : walkT st.ns t c [] = F at *
  have loop : ∀ (post done : List Nat) (T : Sto) (st1 : Bd) (pr : List (Nat × Nat)) (x5 x6 x7 x8 : Option Vl), F = done ++ post → DAt T s n m r st1 → Good E st1 → st.Le st1 → st1.mm = st.mm → st1.ns.length ≤ st.ns.length + done.length → pr.length = done.length + 2 → T[S.length]? = some (.dct false (rsV pr)) → Rs st.ns st1 e b pr done → S.length < T.length → (∀ j, j < S.length → j ≠ n → j ≠ m → j ≠ r → T[j]? = S[j]?) →
      ∃ T' st' pr' y5 y6 y7 y8, fors (rsB G (k + 2)) (.var 5) (post.map (Vl.d ∘ encN)) [some (.p s), some (.d (.int (c : Int))), some (.d (.int e)), some (.d (.bl b)), some (.p S.length), x5, x6, x7, x8] T = .nx [some (.p s), some (.d (.int (c : Int))), some (.d (.int e)), some (.d (.bl b)), some (.p S.length), y5, y6, y7, y8] T' ∧
        DAt T' s n m r st' ∧ Good E st' ∧ st.Le st' ∧ st'.mm = st.mm ∧ st'.ns.length ≤ st.ns.length + F.length ∧ T'[S.length]? = some (.dct false (rsV pr')) ∧ Rs st.ns st' e b pr' F ∧ S.length < T'.length ∧ (∀ j, j < S.length → j ≠ n → j ≠ m → j ≠ r → T'[j]? = S[j]?) := by
    intro post
    induction post with
    | nil =>
      intro done T st1 pr x5 x6 x7 x8 e1 h1 g1 le1 mm1 n1 p1 r1 inv lt1 fr1
      rw [List.append_nil] at e1
      subst e1
      exact ⟨T, st1, pr, x5, x6, x7, x8, rfl, h1, g1, le1, mm1, n1, r1, inv, lt1, fr1⟩
    | cons x post ih =>
      intro done T st1 pr x5 x6 x7 x8 e1 h1 g1 le1 mm1 n1 p1 r1 inv lt1 fr1
      obtain ⟨h2x, hxd, hkx⟩ := ord done x post e1
      obtain ⟨i, y, u, v, rfl, k1, l, r', du, dv, dx, _⟩ := hden x (by rw [e1]; simp)
      obtain ⟨more1, hm1⟩ := le1
      have hlen : done.length + (post.length + 1) ≤ 2048 := by
        have := congrArg List.length e1
        simp at this
        omega
      obtain ⟨d', T', st', y6, y7, y8, e2, r2, h2, le2, g2, inv2, n2, mm2, lt2, fr2⟩ := rs_step (R := S.length) g h1 g1 hm1 ⟨by omega, by omega, by omega, by omega⟩ (b := b) (e := e) r1 inv (by omega) (by omega) k1 du dv hxd hkx (k + 1) c x6 x7 x8
      obtain ⟨T'', st'', pr'', z5, z6, z7, z8, e3, rest⟩ := ih (done ++ [i + 2]) T' st' (pr ++ [(i + 2, d')]) (some (.d (.int ((i : Int) + 2)))) y6 y7 y8 (by rw [e1]; simp) h2 g2 (Bd.Le.trans ⟨more1, hm1⟩ le2) (mm2.trans mm1) (by simp; omega) (by simp; omega) r2 inv2 (by omega) (fun j hj a1 a2 a3 => (fr2 j (by omega) a1 a2 a3 (by omega)).trans (fr1 j hj a1 a2 a3))
      refine ⟨T'', st'', pr'', z5, z6, z7, z8, ?_, rest⟩
      rw [List.map_cons, fors_var]
      have e' : rsB G (k + 2) ([some (.p s), some (.d (.int (c : Int))), some (.d (.int e)), some (.d (.bl b)), some (.p S.length), x5, x6, x7, x8].set 5 (some ((Vl.d ∘ encN) (i + 2)))) T = _ := e2
      rw [e', forNx_nx]
      exact e3
  have hsA : (S ++ [Cell.dct false (rsV [(0, 0), (1, 1)])])[S.length]? = some (.dct false (rsV [(0, 0), (1, 1)])) := by simp
  obtain ⟨T', st', pr', y5, y6, y7, y8, e1, h1, g1, le1, mm1, n1, r1, inv, lt1, fr1⟩ := loop F [] (S ++ [.dct false (rsV [(0, 0), (1, 1)])] ++ more) st [(0, 0), (1, 1)] none none none none rfl h.apps.apps hg (.refl _) rfl (by omega) rfl (by simp) (Rs.zero _ _ _ _) (by simp) (fun j hj _ _ _ => by rw [List.append_assoc, List.getElem?_append_left hj])
  obtain ⟨c', lc', dc'⟩ := inv.has c t d (by
    by_cases z : c < 2
    · exact .inl z
    · exact .inr (by rw [← hF]; exact walk_mem d (by omega)))
  refine ⟨c', T', st', ?_, h1, ⟨by omega, fr1⟩, le1, g1, ⟨_, dc', rs_wt w e b, fun ρ => by rw [rs_val, vf]⟩, by omega, by rw [mm1]; omega⟩
  have fc := find_rsV pr' c
  rw [lc'] at fc
  have hs2 : (S ++ [Cell.dct false (rsV [(0, 0), (1, 1)])])[s]? = _ := (h.apps (more := [Cell.dct false (rsV [(0, 0), (1, 1)])])).hs
  rw [run_keep (d := d175) f175 rfl rfl]
  simp [rsV, encN] at er e1 hs2
  simp [d175, b175, c0, c1, disp01, hs2, er, e1, r1, fc, keyOk, flatKey]
/-! ### implies, helps, hurts -/
structure Stay (S S' : Sto) (s n m r : Nat) (E : List Int) (st st' : Bd) (w : Nat) : Prop where
  at_ : DAt S' s n m r st'
  fr : Fr S S' n m r
  le : st.Le st'
  good : Good E st'
  gn : st'.ns.length ≤ st.ns.length + w
  gm : st'.mm.length ≤ st.mm.length + w
theorem Mean.stay {S' : Sto} {st' : Bd} {c w : Nat} {f : (Int → Bool) → Bool} (h : Mean S S' s n m r E st st' c f w) : Stay S S' s n m r E st st' w := ⟨h.at_, h.fr, h.le, h.good, h.gn, h.gm⟩
theorem Stay.trans {S' S2 : Sto} {st' st2 : Bd} {w v : Nat} (a : Stay S S' s n m r E st st' w) (b : Stay S' S2 s n m r E st' st2 v) : Stay S S2 s n m r E st st2 (w + v) := by
  have := a.gn
  have := a.gm
  have := b.gn
  have := b.gm
  exact ⟨b.at_, a.fr.trans b.fr, a.le.trans b.le, b.good, by omega, by omega⟩
theorem Stay.mono {S' : Sto} {st' : Bd} {w v : Nat} (a : Stay S S' s n m r E st st' w) (h : w ≤ v) : Stay S S' s n m r E st st' v := by
  have := a.gn
  have := a.gm
  exact ⟨a.at_, a.fr, a.le, a.good, by omega, by omega⟩
theorem Stay.refl (h : DAt S s n m r st) (g : Good E st) : Stay S S s n m r E st st 0 := ⟨h, .refl _ _ _ _, .refl _, g, Nat.le_refl _, Nat.le_refl _⟩
theorem Stay.apps {S' : Sto} {st' : Bd} {w : Nat} (a : Stay S S' s n m r E st st' w) (more : List Cell) : Stay S (S' ++ more) s n m r E st st' w :=
  ⟨a.at_.apps, ⟨by rw [List.length_append]; have := a.fr.len; omega, fun i h h1 h2 h3 => by rw [List.getElem?_append_left (Nat.lt_of_lt_of_le h a.fr.len)]; exact a.fr.at_ i h h1 h2 h3⟩, a.le, a.good, a.gn, a.gm⟩
theorem implies_run (g : BG G) (f169 : G.defs 169 = some d169) (h : DAt S s n m r st) (hg : Good E st) {k a b : Nat} {f1 f2 : (Int → Bool) → Bool} (d1 : Is st E a f1) (d2 : Is st E b f2)
    (hk : 3 * E.length + 5 ≤ k) (hn : st.ns.length + 2 * pw E ≤ 15000000) (hm : st.mm.length + 2 * pw E ≤ 15000000) :
    ∃ (v : Bool) (S' : Sto) (st' : Bd), run G k 169 [.p s, .d (.int (a : Int)), .d (.int (b : Int))] S = .ok (.d (.bl v)) S' ∧ (v = true ↔ ∀ ρ, f1 ρ = true → f2 ρ = true) ∧ Stay S S' s n m r E st st' (2 * pw E) := by
  obtain ⟨k, rfl⟩ : ∃ j, k = j + 1 := ⟨k - 1, by omega⟩
  have hp := pw_pos E
  obtain ⟨x, S1, s1, e1, o1⟩ := neg_is (k := k) g h hg d2 (by omega) (by omega) (by omega)
  have n1 := o1.gn
  have m1 := o1.gm
  obtain ⟨y, S2, s2, e2, o2⟩ := meth_is (k := k) (o := 0) g o1.at_ o1.good (by decide) (d1.le o1.le) o1.den (by omega) (by omega) (by omega)
  have hs := h.hs
  have hs1 := o1.at_.hs
  have c0 := g.c0
  refine ⟨decide (y = 0), S2, s2, ?_, ?_, (o1.stay.trans o2.stay).mono (by omega)⟩
  · simp at e2
    rw [run_keep (d := d169) f169 rfl rfl]
    simp [d169, b169, hs, hs1, e1, e2, c0]
  · have := Is.eq_iff o2.good o2.den (Is.zero s2 E)
    rw [decide_eq_true_eq, this]
    constructor
    · intro z ρ hf
      have := z ρ
      simp [opB, hf] at this
      exact this
    · intro z ρ
      have := z ρ
      simp only [opB]
      cases h1 : f1 ρ
      · rfl
      · rw [this h1]; rfl
theorem helps_run (g : BG G) (f171 : G.defs 171 = some d171) (f172 : G.defs 172 = some d172) (f175 : G.defs 175 = some d175) (f169 : G.defs 169 = some d169) (hfu : 10000000 ≤ G.fuel) (h : DAt S s n m r st) (hg : Good E st) (hE10 : E.length ≤ 10) {k c : Nat} (hk : 50 ≤ k) {f : (Int → Bool) → Bool} (hf : Is st E c f) (e : Int) (b : Bool) (hn : st.ns.length ≤ 13000000) (hm : st.mm.length ≤ 13000000)
    (ff : G.defs (if b then 176 else 177) = some (if b then d176 else d177)) :
    ∃ (v : Bool) (S' : Sto) (st' : Bd), run G k (if b then 176 else 177) [.p s, .d (.int (c : Int)), .d (.int e)] S = .ok (.d (.bl v)) S' ∧ (v = true ↔ ∃ ρ, f (upB ρ e b) = true ∧ f (upB ρ e (!b)) = false) ∧ Stay S S' s n m r E st st' 10000 := by
  obtain ⟨k, rfl⟩ : ∃ j, k = j + 4 := ⟨k - 4, by omega⟩
  have hp : pw E ≤ 1024 := Nat.pow_le_pow_right (n := 2) (by decide) hE10
  obtain ⟨x, S1, s1, e1, o1⟩ := restrict_run g f171 f172 f175 hfu h hg hE10 (by omega) k hf e b
  have n1 := o1.gn
  have m1 := o1.gm
  obtain ⟨y, S2, s2, e2, o2⟩ := restrict_run g f171 f172 f175 hfu o1.at_ o1.good hE10 (by omega) k (hf.le o1.le) e (!b)
  have n2 := o2.gn
  have m2 := o2.gm
  obtain ⟨v, S3, s3, e3, hv, o3⟩ := implies_run (k := k + 3) g f169 o2.at_ o2.good (Is.le o1.den o2.le) o2.den (by omega) (by omega) (by omega)
  have hs := h.hs
  have hs1 := o1.at_.hs
  have hs2 := o2.at_.hs
  refine ⟨!v, S3, s3, ?_, ?_, ((o1.stay.trans o2.stay).trans o3).mono (by omega)⟩
  · rw [run_keep (d := if b then d176 else d177) ff (by cases b <;> rfl) (by cases b <;> rfl) (by cases b <;> rfl)]
    cases b
    · simp at e1 e2 e3
      simp [d177, b177, hs, hs1, hs2, e1, e2, e3]
    · simp at e1 e2 e3
      simp [d176, b176, hs, hs1, hs2, e1, e2, e3]
  · constructor
    · intro z
      have : ¬ v = true := by simpa using z
      rw [hv] at this
      apply Classical.byContradiction
      intro w
      apply this
      intro ρ hρ
      apply Classical.byContradiction
      intro u
      exact w ⟨ρ, hρ, by simpa using u⟩
    · intro ⟨ρ, h1, h2⟩
      have : ¬ v = true := fun z => by
        have := hv.mp z ρ h1
        rw [this] at h2
        cases h2
      simpa using this
end
end Z
end

section
set_option maxHeartbeats 2000000
set_option maxRecDepth 10000
/-! B12: sets counted; the first set. -/
namespace Z
namespace BD
def b178 : List Z.St := [.asg (.var 3) (.dc false (.var 5) (.var 4) (.tup [.var 4, .var 5]) [4, 5] (.enum) [.var 2] none), .asg (.var 6) (.dct false true [.glob 107, .tup [.bf (.len) false [.var 2], .con (.int 0)], .glob 108, .tup [.bf (.len) false [.var 2], .con (.int 1)]]), .fors (.var 7) (.seq) [.meth (.var 0) [(1, 171)] [.lst false [.var 1]]] [.asg (.tup [.var 5, .var 8, .var 9]) (.ix (.fld (.var 0) 3 [1]) (.var 7)), .asg (.var 4) (.ix (.var 3) (.var 5)), .asg (.var 10) (.con (.int 0)), .fors (.var 11) (.seq) [.tup [.var 8, .var 9]] [.aug 10 (.add) (.op (.shl) (.ix (.ix (.var 6) (.var 11)) (.con (.int 1))) (.op (.sub) (.op (.sub) (.ix (.ix (.var 6) (.var 11)) (.con (.int 0))) (.var 4)) (.con (.int 1))))], .sub (.var 6) (.var 7) (.tup [.var 4, .var 10])], .asg (.tup [.var 4, .var 10]) (.ix (.var 6) (.var 1)), .ret (.op (.shl) (.var 10) (.var 4))]
def d178 : Df := { slots := 12, params := 3, body := b178, keep := true, alone := false, init := false }
def b179 : List Z.St := [.ifs (.cmp (.eq) (.var 1) (.glob 107)) [.frz [2], .ret (.con (.non))] [], .asg (.var 2) (.lst true []), .whl (.cmp (.gt) (.var 1) (.glob 108)) [.asg (.tup [.var 3, .var 4, .var 5]) (.ix (.fld (.var 0) 3 [1]) (.var 1)), .ifs (.cmp (.eq) (.var 4) (.glob 107)) [.expr (.bm (.append) (.var 2) [.var 3]), .asg (.var 1) (.var 5)] [.asg (.var 1) (.var 4)]], .frz [2], .ret (.var 2)]
def d179 : Df := { slots := 6, params := 2, body := b179, keep := true, alone := false, init := false }
end BD
open BD
/-! ### places -/
def plc : Nat → List Int → List (D × D)
  | _, [] => []
  | i, w :: W => (.int w, .int (i : Int)) :: plc (i + 1) W
def enumL : Nat → List Int → List Vl
  | _, [] => []
  | i, w :: W => .d (.tup [.int (i : Int), .int w]) :: enumL (i + 1) W
theorem enum_eq : ∀ (W : List Int) (i : Nat), (((List.range' i W.length).zip (W.map D.int)).map fun p => Vl.d (.tup [.int (p.1 : Int), p.2])) = enumL i W
  | [], _ => rfl
  | w :: W, i => by
    rw [List.length_cons, List.range'_succ]
    simp only [List.map_cons, List.zip_cons_cons, enumL]
    rw [enum_eq W (i + 1)]
theorem enum_walk (W : List Int) (S : Sto) : walkF .enum [.d (.lst (W.map .int))] S = .ok (enumL 0 W, none) S := by
  rw [wk_enum, ← enum_eq W 0, List.length_map, List.range_eq_range']
theorem plc_len : ∀ (W : List Int) (i : Nat), (plc i W).length = W.length
  | [], _ => rfl
  | w :: W, i => by simp [plc, plc_len W (i + 1)]
theorem plc_new {w : Int} : ∀ {W : List Int} {i : Nat}, w ∉ W → kvFind ((plc i W).map fun p => (p.1, Vl.d p.2)) (.int w) = none
  | [], _, _ => rfl
  | v :: W, i, h => by
    have h1 : ¬ v = w := fun z => h (by rw [z]; simp)
    have := plc_new (W := W) (i := i + 1) fun z => h (List.mem_cons_of_mem _ z)
    unfold kvFind at this ⊢
    simp only [plc, List.map_cons, List.find?_cons, eqv_int, h1, decide_false]
    exact this
theorem kvFind_app {α : Type} {a b : List (D × α)} {k : D} (h : kvFind a k = none) : kvFind (a ++ b) k = kvFind b k := by
  unfold kvFind at h ⊢
  rw [List.find?_append]
  simp only [Option.map_eq_none_iff] at h
  rw [h]; rfl
theorem places_turns {f : Env → Sto → Res (Option (D × Vl))} {ρ : Env} {S : Sto} (hf : ∀ (i : Nat) (w : Int), f ((ρ.set 4 (some (.d (.int (i : Int))))).set 5 (some (.d (.int w)))) S = .ok (some (.int w, .d (.int (i : Int)))) S) :
    ∀ (W : List Int) (i : Nat) (acc : List (D × Vl)), W.Nodup → (∀ w ∈ W, kvFind acc (.int w) = none) → acc.length + W.length ≤ 1000000 → turnsG putD f (.tup [.var 4, .var 5]) ρ (enumL i W) acc S = .ok (acc ++ (plc i W).map fun p => (p.1, Vl.d p.2)) S
  | [], i, acc, _, _, _ => by simp [enumL, turnsG, plc]
  | w :: W, i, acc, hn, ha, hl => by
    simp only [List.length_cons] at hl
    have hn' := List.nodup_cons.mp hn
    have hz : acc.length < 16777216 := by omega
    have ih := places_turns hf W (i + 1) (acc ++ [(.int w, .d (.int (i : Int)))]) hn'.2 (fun v hv => by
      rw [kvFind_app (ha v (List.mem_cons_of_mem _ hv))]
      have : ¬ w = v := fun z => hn'.1 (by rw [z]; exact hv)
      simp [kvFind, this]) (by simp; omega)
    simp only [enumL]
    unfold turnsG
    have hp : putD acc (.int w, .d (.int (i : Int))) = some (acc ++ [(.int w, .d (.int (i : Int)))]) := by
      simp [putD, keyOk, flatKey, hz, put_new (ha w (by simp))]
    have hb : bindT (.tup [.var 4, .var 5]) (.d (.tup [.int (i : Int), .int w])) ρ = some ((ρ.set 4 (some (.d (.int (i : Int))))).set 5 (some (.d (.int w)))) := by
      simp only [bindT_tup, bindTs_cons, bindT_var, bindNx_s, bindTs_nil]
    simp only [hb, hf, hp]
    rw [ih]
    simp [plc]
def plD (W : List Int) : D := .dct false ((plc 0 W).map (·.1)) ((plc 0 W).map (·.2))
theorem zip_maps {α β : Type} : ∀ l : List (α × β), (l.map (·.1)).zip (l.map (·.2)) = l
  | [] => rfl
  | x :: l => by simp only [List.map_cons, List.zip_cons_cons]; rw [zip_maps l]
theorem plc_at {w : Int} : ∀ {P W : List Int} {i : Nat}, w ∉ P → kvFind (plc i (P ++ w :: W)) (.int w) = some (.int ((i + P.length : Nat) : Int))
  | [], W, i, _ => by simp [plc, kvFind]
  | v :: P, W, i, h => by
    have h1 : ¬ v = w := fun z => h (by rw [z]; simp)
    have := plc_at (P := P) (W := W) (i := i + 1) fun z => h (List.mem_cons_of_mem _ z)
    unfold kvFind at this ⊢
    simp only [List.cons_append, plc, List.find?_cons, eqv_int, h1, decide_false]
    rw [this, List.length_cons]
    have : i + 1 + P.length = i + (P.length + 1) := by omega
    rw [this]
theorem pl_ix {P W : List Int} {w : Int} (h : w ∉ P) (S : Sto) : index (.d (plD (P ++ w :: W))) (.d (.int w)) S = .ok (.d (.int (P.length : Int))) S := by
  have h1 := plc_at (W := W) (i := 0) h
  show (if keyOk false (.int w) then (match kvFind (((plc 0 (P ++ w :: W)).map (·.1)).zip ((plc 0 (P ++ w :: W)).map (·.2))) (.int w) with
    | some y => Res.ok (Vl.d y) S
    | none => .bad) else .bad) = _
  rw [zip_maps, h1]
  simp [keyOk, flatKey]
/-! ### sets counted -/
def cntL : List Int → ((Int → Bool) → Bool) → Nat
  | [], f => if f (fun _ => false) then 1 else 0
  | x :: W, f => cntL W (fun ρ => f (upB ρ x false)) + cntL W (fun ρ => f (upB ρ x true))
theorem cntL_congr : ∀ (W : List Int) {f g : (Int → Bool) → Bool}, (∀ ρ, f ρ = g ρ) → cntL W f = cntL W g
  | _, f, g, h => by rw [funext h]
theorem cntL_skip {x : Int} {W : List Int} {f : (Int → Bool) → Bool} (h : ∀ ρ b, f (upB ρ x b) = f ρ) : cntL (x :: W) f = 2 * cntL W f := by
  show cntL W _ + cntL W _ = _
  rw [cntL_congr W (h · false), cntL_congr W (h · true)]
  omega
theorem up_comm {x y : Int} (h : x ≠ y) (ρ : Int → Bool) (a b : Bool) : upB (upB ρ x a) y b = upB (upB ρ y b) x a := by
  funext z
  unfold upB
  by_cases h1 : z = x
  · have h2 : ¬ z = y := fun e => h (h1.symm.trans e)
    rw [if_neg h2, if_pos h1, if_pos h1]
  · by_cases h2 : z = y
    · rw [if_pos h2, if_neg h1, if_pos h2]
    · rw [if_neg h2, if_neg h1, if_neg h1, if_neg h2]
theorem cntL_snoc {x : Int} : ∀ {W : List Int} {f : (Int → Bool) → Bool}, x ∉ W → cntL (W ++ [x]) f = cntL W (fun ρ => f (upB ρ x false)) + cntL W (fun ρ => f (upB ρ x true))
  | [], f, _ => rfl
  | y :: W, f, h => by
    have h1 : x ≠ y := fun z => h (by rw [z]; simp)
    have h2 : x ∉ W := fun z => h (List.mem_cons_of_mem _ z)
    show cntL (W ++ [x]) _ + cntL (W ++ [x]) _ = (cntL W _ + cntL W _) + (cntL W _ + cntL W _)
    rw [cntL_snoc h2, cntL_snoc h2]
    simp only [up_comm h1]
    omega
theorem cnt_subs {E : List Int} (hn : E.Nodup) (f : (Int → Bool) → Bool) : ((subs E).filter fun p => f fun x => decide (x ∈ p)).length = cntL E f := by
  induction E using snoc_ind generalizing f with
  | h0 =>
    have : (subs []) = [[]] := rfl
    rw [this]
    simp only [List.filter_cons, List.filter_nil, List.not_mem_nil, decide_false, cntL]
    split <;> rfl
  | h1 xs x ih =>
    have hn' := List.nodup_append.mp hn
    have hx : x ∉ xs := fun z => hn'.2.2 x z x (by simp) rfl
    rw [subs_snoc, List.filter_append, List.length_append, cntL_snoc hx, ← ih hn'.1, ← ih hn'.1]
    congr 1
    · congr 1
      apply List.filter_congr
      intro p hp
      have : (fun y => decide (y ∈ p)) = upB (fun y => decide (y ∈ p)) x false := by
        funext y
        unfold upB
        by_cases e : y = x
        · subst e
          have : y ∉ p := fun z => hx (subs_sub hp y z)
          simp [this]
        · simp [e]
      rw [← this]
    · rw [List.filter_map, List.length_map]
      congr 1
      apply List.filter_congr
      intro p hp
      have : (fun y => decide (y ∈ p ++ [x])) = upB (fun y => decide (y ∈ p)) x true := by
        funext y
        unfold upB
        by_cases e : y = x <;> simp [e]
      simp only [Function.comp]
      rw [this]
/-- a sparser list -/
theorem cnt_sub {E W : List Int} (h : E.Sublist W) : ∀ {f : (Int → Bool) → Bool}, W.Nodup → Fin1 E f → cntL W f = 2 ^ (W.length - E.length) * cntL E f := by
  induction h with
  | slnil => intro f _ _; simp [cntL]
  | @cons E W x hs ih =>
    intro f hn hf
    have hn' := List.nodup_cons.mp hn
    have hx : x ∉ E := fun z => hn'.1 (hs.subset z)
    rw [cntL_skip fun ρ b => hf fun e he => by
      have : e ≠ x := fun z => hx (by rw [← z]; exact he)
      unfold upB; rw [if_neg this], ih hn'.2 hf]
    have := hs.length_le
    rw [List.length_cons, show W.length + 1 - E.length = (W.length - E.length) + 1 by omega, Nat.pow_succ]
    rw [Nat.mul_comm (2 ^ (W.length - E.length)) 2, Nat.mul_assoc]
  | @cons_cons E W x hs ih =>
    intro f hn hf
    have hn' := List.nodup_cons.mp hn
    have hb : ∀ b, Fin1 E fun ρ => f (upB ρ x b) := fun b {ρ σ} k => hf fun e he => by
      unfold upB
      rcases List.mem_cons.mp he with he | he
      · simp [he]
      · split
        · rfl
        · exact k e he
    show cntL W _ + cntL W _ = _ * (cntL E _ + cntL E _)
    rw [ih hn'.2 (hb false), ih hn'.2 (hb true), List.length_cons, List.length_cons, Nat.add_sub_add_right, Nat.mul_add]
/-- the place of a diagram's top -/
def plT (W : List Int) : Bt → Nat
  | .leaf _ => W.length
  | .node x _ _ => W.idxOf x
def mnT (W : List Int) : Bt → Nat
  | .leaf b => if b then 1 else 0
  | .node x l r => mnT W l * 2 ^ (plT W l - W.idxOf x - 1) + mnT W r * 2 ^ (plT W r - W.idxOf x - 1)
theorem cnt_leaf (b : Bool) : ∀ W : List Int, cntL W (Bt.leaf b).val = if b then 2 ^ W.length else 0
  | [] => by cases b <;> rfl
  | x :: W => by
    rw [cntL_skip fun _ _ => rfl, cnt_leaf b W]
    cases b
    · rfl
    · simp only [if_true, List.length_cons, Nat.pow_succ]; omega
theorem idx_mid {P W : List Int} {x : Int} (h : x ∉ P) : (P ++ x :: W).idxOf x = P.length := by
  induction P with
  | nil => simp
  | cons y P ih =>
    have h1 : ¬ y = x := fun z => h (by rw [z]; simp)
    have := ih fun z => h (List.mem_cons_of_mem _ z)
    have hb : (y == x) = false := by simpa using h1
    rw [List.cons_append, List.idxOf_cons, hb, this]
    simp
theorem mn_cnt {W W' : List Int} {u : Bt} (h : Wt W' u) : ∀ {P : List Int}, W = P ++ W' → W.Nodup → P.length ≤ plT W u ∧ plT W u ≤ W.length ∧ mnT W u * 2 ^ (plT W u - P.length) = cntL W' u.val := by
  induction h with
  | @leaf W' b =>
    intro P e _
    simp only [plT, mnT]
    rw [cnt_leaf, e, List.length_append, Nat.add_sub_cancel_left]
    refine ⟨by omega, Nat.le_refl _, ?_⟩
    cases b <;> simp
  | @skip W' x t hw ih =>
    intro P e hn
    obtain ⟨h1, h3, h2⟩ := ih (P := P ++ [x]) (by rw [e]; simp) hn
    rw [List.length_append, List.length_singleton] at h1 h2
    have hx : x ∉ W' := by
      rw [e] at hn
      exact (List.nodup_cons.mp (List.nodup_append.mp hn).2.1).1
    refine ⟨by omega, h3, ?_⟩
    rw [cntL_skip (fun ρ b => hw.val_up hx ρ b), ← h2, show plT W t - P.length = (plT W t - (P.length + 1)) + 1 by omega, Nat.pow_succ]
    rw [← Nat.mul_assoc, Nat.mul_comm]
  | @node W' x l r hl hr _ i1 i2 =>
    intro P e hn
    obtain ⟨a1, a3, a2⟩ := i1 (P := P ++ [x]) (by rw [e]; simp) hn
    obtain ⟨b1, b3, b2⟩ := i2 (P := P ++ [x]) (by rw [e]; simp) hn
    have hn2 := hn
    rw [e] at hn2
    have hx : x ∉ W' := (List.nodup_cons.mp (List.nodup_append.mp hn2).2.1).1
    have hxP : x ∉ P := fun z => (List.nodup_append.mp hn2).2.2 x z x (by simp) rfl
    have hi : W.idxOf x = P.length := by rw [e]; exact idx_mid hxP
    rw [List.length_append, List.length_singleton] at a1 a2 b1 b2
    have pn : plT W (.node x l r) = P.length := hi
    have mm : mnT W (.node x l r) = mnT W l * 2 ^ (plT W l - W.idxOf x - 1) + mnT W r * 2 ^ (plT W r - W.idxOf x - 1) := rfl
    rw [pn, mm, hi, Nat.sub_self]
    refine ⟨Nat.le_refl _, by rw [e]; simp, ?_⟩
    rw [Nat.pow_zero, Nat.mul_one]
    show _ = cntL W' _ + cntL W' _
    have e0 : cntL W' (fun ρ => (Bt.node x l r).val (upB ρ x false)) = cntL W' l.val := cntL_congr W' fun ρ => by
      rw [val_node, hl.val_up hx, hr.val_up hx]; simp [upB]
    have e1 : cntL W' (fun ρ => (Bt.node x l r).val (upB ρ x true)) = cntL W' r.val := cntL_congr W' fun ρ => by
      rw [val_node, hl.val_up hx, hr.val_up hx]; simp [upB]
    rw [e0, e1, ← a2, ← b2, Nat.sub_sub, Nat.sub_sub]
theorem mn_le {W W' : List Int} {u : Bt} (h : Wt W' u) {P : List Int} (e : W = P ++ W') (hn : W.Nodup) : mnT W u ≤ 2 ^ W.length := by
  have h1 := (mn_cnt h e hn).2.2
  have h2 : ∀ (W : List Int) (f : (Int → Bool) → Bool), cntL W f ≤ 2 ^ W.length := fun W => by
    induction W with
    | nil => intro f; simp only [cntL]; split <;> simp
    | cons x W ih =>
      intro f
      have a := ih (fun ρ => f (upB ρ x false))
      have b := ih (fun ρ => f (upB ρ x true))
      show cntL W _ + cntL W _ ≤ _
      rw [List.length_cons, Nat.pow_succ]; omega
  have h3 := h2 W' u.val
  have h4 : 2 ^ W'.length ≤ 2 ^ W.length := Nat.pow_le_pow_right (by decide) (by rw [e]; simp)
  have h5 : mnT W u * 1 ≤ mnT W u * 2 ^ (plT W u - P.length) := Nat.mul_le_mul_left _ Nat.one_le_two_pow
  omega
/-! ### ways -/
def enV {α : Type} (g : α → D) (pr : List (Nat × α)) : List (D × Vl) := pr.map fun p => (encN p.1, .d (g p.2))
def lookA {α : Type} (pr : List (Nat × α)) (c : Nat) : Option α := (pr.find? fun p => decide (p.1 = c)).map (·.2)
theorem find_enV {α : Type} (g : α → D) (pr : List (Nat × α)) (c : Nat) : kvFind (enV g pr) (.int (c : Int)) = (lookA pr c).map fun d => .d (g d) := by
  unfold kvFind enV lookA
  induction pr with
  | nil => rfl
  | cons p pr ih =>
    simp only [List.map_cons, List.find?_cons, encN, eqv_int]
    by_cases h : p.1 = c
    · simp [h]
    · have h' : ¬ ((p.1 : Int) = (c : Int)) := by omega
      simp only [h', h, decide_false]
      exact ih
theorem put_enV {α : Type} (g : α → D) {pr : List (Nat × α)} {c : Nat} (h : lookA pr c = none) (d : α) : kvPut (enV g pr) (.int (c : Int)) (.d (g d)) = enV g (pr ++ [(c, d)]) := by
  rw [put_new (by rw [find_enV, h]; rfl)]
  simp [enV, encN]
theorem lookA_snoc {α : Type} (pr : List (Nat × α)) (c : Nat) (d : α) (x : Nat) : lookA (pr ++ [(c, d)]) x = match lookA pr x with
    | some v => some v
    | none => if c = x then some d else none := by
  unfold lookA
  rw [List.find?_append]
  cases pr.find? (fun p => decide (p.1 = x)) with
  | some v => rfl
  | none => by_cases h : c = x <;> simp [h]
structure As {α : Type} (ns : List Nd) (val : Bt → α) (pr : List (Nat × α)) (done : List Nat) : Prop where
  has : ∀ c u, Den ns c u → (c < 2 ∨ c ∈ done) → lookA pr c = some (val u)
  new : ∀ c, 2 ≤ c → c ∉ done → lookA pr c = none
theorem As.zero {α : Type} (ns : List Nd) (val : Bt → α) : As ns val [(0, val (.leaf false)), (1, val (.leaf true))] [] :=
  ⟨fun c u d h => (by
    rcases h with h | h
    · have : c = 0 ∨ c = 1 := by omega
      rcases this with rfl | rfl
      · rw [d.zero_inv]; rfl
      · rw [d.one_inv]; rfl
    · cases h), fun c h _ => by
    have h0 : ¬ (0 = c) := by omega
    have h1 : ¬ (1 = c) := by omega
    simp [lookA, h0, h1]⟩
theorem As.step {α : Type} {ns : List Nd} {val : Bt → α} {pr : List (Nat × α)} {done : List Nat} (h : As ns val pr done) {x : Nat} {u : Bt} (hx : 2 ≤ x) (hn : x ∉ done) (dx : Den ns x u) : As ns val (pr ++ [(x, val u)]) (done ++ [x]) :=
  ⟨fun c v dc hc => by
    by_cases k : c < 2 ∨ c ∈ done
    · rw [lookA_snoc, h.has c v dc k]
    · have hcx : c = x := by
        rcases hc with hc | hc
        · exact absurd (.inl hc) k
        · rcases List.mem_append.mp hc with hc | hc
          · exact absurd (.inr hc) k
          · exact List.mem_singleton.mp hc
      subst hcx
      rw [dc.fn dx, lookA_snoc, h.new c hx hn]; simp,
   fun c hc hd => by
    rw [lookA_snoc, h.new c hc fun z => hd (List.mem_append_left _ z)]
    have : x ≠ c := fun z => hd (by rw [z]; simp)
    simp [this]⟩
def pm (p : Nat × Nat) : D := .tup [.int (p.1 : Int), .int (p.2 : Int)]
abbrev wyB (G : Gm) (k : Nat) : Env → Sto → RS := exs G (run G k) [.asg (.tup [.var 5, .var 8, .var 9]) (.ix (.fld (.var 0) 3 [1]) (.var 7)), .asg (.var 4) (.ix (.var 3) (.var 5)), .asg (.var 10) (.con (.int 0)), .fors (.var 11) (.seq) [.tup [.var 8, .var 9]] [.aug 10 (.add) (.op (.shl) (.ix (.ix (.var 6) (.var 11)) (.con (.int 1))) (.op (.sub) (.op (.sub) (.ix (.ix (.var 6) (.var 11)) (.con (.int 0))) (.var 4)) (.con (.int 1))))], .sub (.var 6) (.var 7) (.tup [.var 4, .var 10])]
section
variable {G : Gm} {S : Sto} {s n m r : Nat} {st : Bd} {E : List Int}
theorem wy_step {T : Sto} (h : DAt T s n m r st) {W W0 P0 : List Int} (hW : W = P0 ++ W0) (hn : W.Nodup) (hl : W.length ≤ 30) {R : Nat} (q : R ≠ s ∧ R ≠ n ∧ R ≠ m ∧ R ≠ r) {pr : List (Nat × (Nat × Nat))} {done : List Nat} (hr : T[R]? = some (.dct false (enV pm pr))) (inv : As st.ns (fun u => (plT W u, mnT W u)) pr done) (hpl : pr.length < 1000000)
    {i : Nat} {y : Int} {u v : Nat} {l w : Bt} (hi : st.ns[i]? = some (y, u, v)) (du : Den st.ns u l) (dv : Den st.ns v w) (hwt : Wt W0 (.node y l w)) (hd : i + 2 ∉ done) (hk : ∀ p ∈ kids st.ns (i + 2), p ∈ done) (k c : Nat) (x4 x5 x8 x9 x10 x11 : Option Vl) :
    ∃ y4 y5 y8 y9 y10 y11, wyB G k [some (.p s), some (.d (.int (c : Int))), some (.d (.lst (W.map .int))), some (.d (plD W)), x4, x5, some (.p R), some (.d (.int ((i : Int) + 2))), x8, x9, x10, x11] T = .nx [some (.p s), some (.d (.int (c : Int))), some (.d (.lst (W.map .int))), some (.d (plD W)), y4, y5, some (.p R), some (.d (.int ((i : Int) + 2))), y8, y9, y10, y11] (T.set R (.dct false (enV pm (pr ++ [(i + 2, (plT W (.node y l w), mnT W (.node y l w)))])))) := by
  have hss := h.hs
  have lR := lt_of_get hr
  have i1 := ix_ndc h hi
  have ixn0 : ∀ (x : Nd), nodeD x = .tup [.int x.1, .int x.2.1, .int x.2.2] := fun _ => rfl
  have ku : u < 2 ∨ u ∈ done := by
    by_cases z : u < 2
    · exact .inl z
    · exact .inr (hk u ((mem_kids hi).mpr ⟨.inl rfl, by omega⟩))
  have kv : v < 2 ∨ v ∈ done := by
    by_cases z : v < 2
    · exact .inl z
    · exact .inr (hk v ((mem_kids hi).mpr ⟨.inr rfl, by omega⟩))
  have la := inv.has u l du ku
  have la' := inv.has v w dv kv
  have fu := find_enV pm pr u
  have fv := find_enV pm pr v
  rw [la] at fu
  rw [la'] at fv
  have hnew := inv.new (i + 2) (by omega) hd
  have hz : (enV pm pr).length < 16777216 := by unfold enV; rw [List.length_map]; omega
  have pu := put_enV pm hnew (plT W (.node y l w), mnT W (.node y l w))
  have ci : ((i + 2 : Nat) : Int) = (i : Int) + 2 := by omega
  rw [ci] at pu
  have iu : index (.p R) (.d (.int (u : Int))) T = .ok (.d (pm (plT W l, mnT W l))) T := by simp [hr, fu, keyOk, flatKey]
  have iv : index (.p R) (.d (.int (v : Int))) T = .ok (.d (pm (plT W w, mnT W w))) T := by simp [hr, fv, keyOk, flatKey]
  -- the place
  obtain ⟨P1, E', hE, wl, wr, _⟩ := hwt.split rfl
  have hW2 : W = (P0 ++ P1) ++ y :: E' := by rw [hW, hE]; simp
  have hyP : y ∉ P0 ++ P1 := fun z => by
    rw [hW2] at hn
    exact (List.nodup_append.mp hn).2.2 y z y (by simp) rfl
  have hidx : W.idxOf y = (P0 ++ P1).length := by rw [hW2]; exact idx_mid hyP
  have ipl := pl_ix (W := E') hyP T
  rw [← hW2] at ipl
  obtain ⟨a1, a3, _⟩ := mn_cnt wl (P := P0 ++ P1 ++ [y]) (by rw [hW2]; simp) hn
  obtain ⟨b1, b3, _⟩ := mn_cnt wr (P := P0 ++ P1 ++ [y]) (by rw [hW2]; simp) hn
  have ml := mn_le wl (P := P0 ++ P1 ++ [y]) (by rw [hW2]; simp) hn
  have mr := mn_le wr (P := P0 ++ P1 ++ [y]) (by rw [hW2]; simp) hn
  have p30 : 2 ^ W.length ≤ 2 ^ 30 := Nat.pow_le_pow_right (by decide) hl
  have hplu : plT W (.node y l w) = (P0 ++ P1).length := hidx
  have hmn : mnT W (.node y l w) = mnT W l * 2 ^ (plT W l - (P0 ++ P1).length - 1) + mnT W w * 2 ^ (plT W w - (P0 ++ P1).length - 1) := by show _ * 2 ^ (_ - W.idxOf y - 1) + _ * 2 ^ (_ - W.idxOf y - 1) = _; rw [hidx]
  rw [hplu, hmn] at pu
  rw [hplu, hmn]
  have a1 : (P0 ++ P1).length + 1 ≤ plT W l := by have := a1; simp at this ⊢; omega
  have b1 : (P0 ++ P1).length + 1 ≤ plT W w := by have := b1; simp at this ⊢; omega
  generalize (P0 ++ P1).length = pp at *
  generalize plT W l = pl1 at *
  generalize plT W w = pl2 at *
  generalize mnT W l = mn1 at *
  generalize mnT W w = mn2 at *
  have c1 : cPow (mn1 : Int) ((pl1 : Int) - (pp : Int) - 1) = true := by unfold cPow; simp; omega
  have c2 : cPow (mn2 : Int) ((pl2 : Int) - (pp : Int) - 1) = true := by unfold cPow; simp; omega
  have t1 : ((pl1 : Int) - (pp : Int) - 1).toNat = pl1 - pp - 1 := by omega
  have t2 : ((pl2 : Int) - (pp : Int) - 1).toNat = pl2 - pp - 1 := by omega
  have pmx : ∀ p : Nat × Nat, pm p = .tup [.int (p.1 : Int), .int (p.2 : Int)] := fun _ => rfl
  have sI : setItem (.p R) (.d (.int ((i : Int) + 2))) (.d (.tup [.int (pp : Int), .int ((mn1 : Int) * 2 ^ (pl1 - pp - 1) + (mn2 : Int) * 2 ^ (pl2 - pp - 1))])) T = some (T.set R (.dct false (enV pm (pr ++ [(i + 2, (pp, mn1 * 2 ^ (pl1 - pp - 1) + mn2 * 2 ^ (pl2 - pp - 1)))])))) := by
    rw [setItem_dct hr, ← pu]
    have : pm (pp, mn1 * 2 ^ (pl1 - pp - 1) + mn2 * 2 ^ (pl2 - pp - 1)) = .tup [.int (pp : Int), .int ((mn1 : Int) * 2 ^ (pl1 - pp - 1) + (mn2 : Int) * 2 ^ (pl2 - pp - 1))] := by simp [pm]
    rw [this]
    simp [keyOk, flatKey, hz]
  refine ⟨some (.d (.int (pp : Int))), some (.d (.int y)), some (.d (.int (u : Int))), some (.d (.int (v : Int))), some (.d (.int ((mn1 : Int) * 2 ^ (pl1 - pp - 1) + (mn2 : Int) * 2 ^ (pl2 - pp - 1)))), some (.d (.int (v : Int))), ?_⟩
  simp [-index_p, wyB, hss, i1, ixn0, ipl, iu, iv, pmx, c1, c2, t1, t2, fors_var, forNx_nx, fors_none, sI]
theorem Wt.mono {E W : List Int} (h : E.Sublist W) : ∀ {t : Bt}, Wt E t → Wt W t := by
  induction h with
  | slnil => exact id
  | cons x _ ih => exact fun w => .skip (ih w)
  | cons_cons x _ ih =>
    intro t w
    cases w with
    | leaf => exact .leaf
    | skip w => exact .skip (ih w)
    | node a b c => exact .node (ih a) (ih b) c
theorem ways_run (g : BG G) (f171 : G.defs 171 = some d171) (f172 : G.defs 172 = some d172) (f178 : G.defs 178 = some d178) (hfu : 10000000 ≤ G.fuel) (h : DAt S s n m r st) (hg : Good E st) (hE10 : E.length ≤ 10) {W : List Int} (hs : E.Sublist W) (hn : W.Nodup) (hl : W.length ≤ 30) (k : Nat) {c : Nat} {t : Bt} (d : Den st.ns c t) (w : Wt E t) :
    ∃ S', run G (k + 3) 178 [.p s, .d (.int (c : Int)), .d (.lst (W.map .int))] S = .ok (.d (.int ((cntL W t.val : Nat) : Int))) S' ∧ Stay S S' s n m r E st st 0 := by
  have c0 := g.c0
  have c1 := g.c1
  have ls := lt_of_get h.hs
  have ln := lt_of_get h.hn
  have lm := lt_of_get h.hm
  have lr := lt_of_get h.hr
  obtain ⟨more, er, hc, hlen, hl2⟩ := reached1 (S := S ++ [.dct false (enV pm [(0, (plT W (.leaf false), mnT W (.leaf false))), (1, (plT W (.leaf true), mnT W (.leaf true)))])]) g f171 f172 hfu h.apps k d w hE10
  have ord := walk_ord0 d
  have hden : ∀ x ∈ walkT st.ns t c [], ∃ i y u v, x = i + 2 ∧ st.ns[i]? = some (y, u, v) ∧ ∃ l r, Den st.ns u l ∧ Den st.ns v r ∧ Den st.ns x (.node y l r) ∧ ∀ e, occ (.node y l r) e → occ t e := fun x hx => den_walk d hx
  generalize hF : walkT st.ns t c [] = F at *
  have loop : ∀ (post done : List Nat) (T : Sto) (pr : List (Nat × (Nat × Nat))) (x4 x5 x7 x8 x9 x10 x11 : Option Vl), F = done ++ post → DAt T s n m r st → pr.length = done.length + 2 → T[S.length]? = some (.dct false (enV pm pr)) → As st.ns (fun u => (plT W u, mnT W u)) pr done → S.length < T.length → (∀ j, j < S.length → T[j]? = S[j]?) →
      ∃ T' pr' y4 y5 y7 y8 y9 y10 y11, fors (wyB G (k + 2)) (.var 7) (post.map (Vl.d ∘ encN)) [some (.p s), some (.d (.int (c : Int))), some (.d (.lst (W.map .int))), some (.d (plD W)), x4, x5, some (.p S.length), x7, x8, x9, x10, x11] T = .nx [some (.p s), some (.d (.int (c : Int))), some (.d (.lst (W.map .int))), some (.d (plD W)), y4, y5, some (.p S.length), y7, y8, y9, y10, y11] T' ∧
        DAt T' s n m r st ∧ T'[S.length]? = some (.dct false (enV pm pr')) ∧ As st.ns (fun u => (plT W u, mnT W u)) pr' F ∧ S.length < T'.length ∧ (∀ j, j < S.length → T'[j]? = S[j]?) := by
    intro post
    induction post with
    | nil =>
      intro done T pr x4 x5 x7 x8 x9 x10 x11 e1 h1 p1 r1 inv lt1 fr1
      rw [List.append_nil] at e1
      subst e1
      exact ⟨T, pr, x4, x5, x7, x8, x9, x10, x11, rfl, h1, r1, inv, lt1, fr1⟩
    | cons x post ih =>
      intro done T pr x4 x5 x7 x8 x9 x10 x11 e1 h1 p1 r1 inv lt1 fr1
      obtain ⟨h2x, hxd, hkx⟩ := ord done x post e1
      obtain ⟨i, y, u, v, rfl, k1, l, r', du, dv, dx, _⟩ := hden x (by rw [e1]; simp)
      have hlen2 : done.length + (post.length + 1) ≤ 2048 := by
        have := congrArg List.length e1
        simp at this
        omega
      obtain ⟨t0, d0, w0⟩ := hg.den (i + 2) (by have := (List.getElem?_eq_some_iff.mp k1).1; omega)
      have et0 : t0 = .node y l r' := d0.fn dx
      subst et0
      obtain ⟨y4, y5, y8, y9, y10, y11, e2⟩ := wy_step (R := S.length) (P0 := []) h1 rfl hn hl ⟨by omega, by omega, by omega, by omega⟩ r1 inv (by omega) k1 du dv (w0.mono hs) hxd hkx (k + 2) c x4 x5 x8 x9 x10 x11
      have lR := lt_of_get r1
      obtain ⟨T'', pr'', z4, z5, z7, z8, z9, z10, z11, e3, rest⟩ := ih (done ++ [i + 2]) (T.set S.length (.dct false (enV pm (pr ++ [(i + 2, (plT W (.node y l r'), mnT W (.node y l r')))])))) (pr ++ [(i + 2, (plT W (.node y l r'), mnT W (.node y l r')))]) y4 y5 (some (.d (.int ((i : Int) + 2)))) y8 y9 y10 y11 (by rw [e1]; simp) (h1.set (by omega) (by omega) (by omega) (by omega)) (by simp; omega) (List.getElem?_set_self lR) (inv.step (by omega) hxd dx) (by simpa using lR) (fun j hj => (List.getElem?_set_ne (by omega)).trans (fr1 j hj))
      refine ⟨T'', pr'', z4, z5, z7, z8, z9, z10, z11, ?_, rest⟩
      rw [List.map_cons, fors_var]
      have e' : wyB G (k + 2) ([some (.p s), some (.d (.int (c : Int))), some (.d (.lst (W.map .int))), some (.d (plD W)), x4, x5, some (.p S.length), x7, x8, x9, x10, x11].set 7 (some ((Vl.d ∘ encN) (i + 2)))) T = _ := e2
      rw [e', forNx_nx]
      exact e3
  obtain ⟨T', pr', y4, y5, y7, y8, y9, y10, y11, e1, h1, r1, inv, lt1, fr1⟩ := loop F [] (S ++ [.dct false (enV pm [(0, (plT W (.leaf false), mnT W (.leaf false))), (1, (plT W (.leaf true), mnT W (.leaf true)))])] ++ more) _ none none none none none none none rfl h.apps.apps rfl (by simp) (As.zero _ (fun u => (plT W u, mnT W u))) (by simp) (fun j hj => by rw [List.append_assoc, List.getElem?_append_left hj])
  have lc := inv.has c t d (by
    by_cases z : c < 2
    · exact .inl z
    · exact .inr (by rw [← hF]; exact walk_mem d (by omega)))
  obtain ⟨q1, q3, q2⟩ := mn_cnt (W := W) (w.mono hs) (P := []) rfl hn
  have ml := mn_le (W := W) (w.mono hs) (P := []) rfl hn
  have p30 : 2 ^ W.length ≤ 2 ^ 30 := Nat.pow_le_pow_right (by decide) hl
  refine ⟨T', ?_, h1, ⟨by omega, fun i hi _ _ _ => fr1 i hi⟩, .refl _, hg, by omega, by omega⟩
  have fc := find_enV pm pr' c
  rw [lc] at fc
  have hs2 : (S ++ [Cell.dct false (enV pm [(0, (plT W (.leaf false), mnT W (.leaf false))), (1, (plT W (.leaf true), mnT W (.leaf true)))])])[s]? = _ := (h.apps (more := [Cell.dct false (enV pm [(0, (plT W (.leaf false), mnT W (.leaf false))), (1, (plT W (.leaf true), mnT W (.leaf true)))])])).hs
  have ic : index (.p S.length) (.d (.int (c : Int))) T' = .ok (.d (.tup [.int (plT W t : Int), .int (mnT W t : Int)])) T' := by simp [r1, fc, keyOk, flatKey, pm]
  have hcp : cPow (mnT W t : Int) (plT W t : Int) = true := by unfold cPow; simp; omega
  have plt := places_turns (f := dcB G (run G (k + 2)) none (.var 5) (.var 4)) (ρ := [some (.p s), some (.d (.int (c : Int))), some (.d (.lst (W.map .int))), none, none, none, none, none, none, none, none, none]) (S := S) (fun i w => by simp) W 0 [] hn (by simp [kvFind]) (by simp; omega)
  have en := enum_walk W S
  rw [List.nil_append] at plt
  have hpd : pures (((plc 0 W).map fun p => (p.1, Vl.d p.2)).map (·.2)) = some ((plc 0 W).map (·.2)) := by
    rw [List.map_map]
    exact pures_mapf (·.2) (plc 0 W)
  have hnd : newDct false false ((plc 0 W).map fun p => (p.1, Vl.d p.2)) S = .ok (.d (plD W)) S := by
    unfold newDct
    rw [hpd, List.map_map]
    rfl
  rw [run_keep (d := d178) f178 rfl rfl]
  rw [← q2, List.length_nil, Nat.sub_zero]
  simp [enV, encN, pm, plT, mnT] at er e1 hs2
  simp [-index_p, -wk_enum, d178, b178, c0, c1, en, plt, hnd, disp01, hs2, er, e1, ic, hcp]
end
end Z
end

section
set_option maxHeartbeats 2000000
set_option maxRecDepth 10000
/-! B13: the first set. -/
namespace Z
open BD
/-! ### marks in order -/
def ltB : List Bool → List Bool → Bool
  | [], [] => false
  | [], _ :: _ => true
  | _ :: _, [] => false
  | a :: as, b :: bs => if a = b then ltB as bs else !a && b
theorem ltB_cons (a b : Bool) (as bs : List Bool) : ltB (a :: as) (b :: bs) = if a = b then ltB as bs else !a && b := rfl
theorem ltDt_lcons {x y : D} {xs ys : List D} (ha : alikeD x y = true) (hx : isData 64 x = true) (hy : isData 64 y = true) : ltDt (.lst (x :: xs)) (.lst (y :: ys)) = if eqv x y then ltDt (.lst xs) (.lst ys) else ltDt x y := by
  unfold ltDt
  simp only [toPy, toPys]
  rw [PySem.W.dataLt_list, PySem.W.dataLt_list, PySem.W.dataLt_cons ha, eqv_py 64 64 x y hx hy]
theorem ltDt_bl (a b : Bool) : ltDt (.bl a) (.bl b) = (!a && b) := by
  unfold ltDt
  simp only [toPy]
  rw [PySem.W.dataLt_bool]
  cases a <;> cases b <;> rfl
theorem ltDt_bls : ∀ {as bs : List Bool}, as.length = bs.length → ltDt (.lst (as.map .bl)) (.lst (bs.map .bl)) = ltB as bs
  | [], [], _ => by
    unfold ltDt
    simp only [List.map_nil, toPy, toPys]
    rw [PySem.W.dataLt_list]
    exact PySem.W.dataLt_ints [] []
  | a :: as, b :: bs, h => by
    have ih := ltDt_bls (as := as) (bs := bs) (by simpa using h)
    rw [List.map_cons, List.map_cons, ltDt_lcons (by simp [alikeD, toPy, PySem.W.alike]) (by simp) (by simp), ih, ltDt_bl, eqv_bl]
    rw [ltB_cons]
    by_cases e : a = b <;> simp [e]
  | [], _ :: _, h => by cases h
  | _ :: _, [], h => by cases h
theorem alike_bls : ∀ (as bs : List Bool), alikeD (.lst (as.map .bl)) (.lst (bs.map .bl)) = true := by
  have key : ∀ (as bs : List Bool), PySem.W.alikeAll (toPys (as.map .bl)) (toPys (bs.map .bl)) = true := by
    intro as
    induction as with
    | nil => intro bs; simp [toPys, PySem.W.alikeAll]
    | cons a as ih =>
      intro bs
      cases bs with
      | nil => simp [toPys, PySem.W.alikeAll]
      | cons b bs => simp [toPys, toPy, PySem.W.alikeAll, PySem.W.alike, ih bs]
  intro as bs
  unfold alikeD
  simp only [toPy, PySem.W.alike]
  exact key as bs
theorem lt_bls {as bs : List Bool} (h : as.length = bs.length) (S : Sto) : cmpop .lt (.d (.lst (as.map .bl))) (.d (.lst (bs.map .bl))) S = .ok (.d (.bl (ltB as bs))) S := by
  rw [lt_lst, ltDt_bls h]
  have : ordOk (.lst (as.map .bl)) (.lst (bs.map .bl)) = true := by
    unfold ordOk
    rw [data_bls, data_bls, alike_bls]
    rfl
  rw [this]; rfl
theorem ltB_self : ∀ a : List Bool, ltB a a = false
  | [] => rfl
  | a :: as => by rw [ltB_cons, if_pos rfl]; exact ltB_self as
theorem ltB_total : ∀ {a b : List Bool}, a.length = b.length → ltB a b = false → ltB b a = false → a = b
  | [], [], _, _, _ => rfl
  | a :: as, b :: bs, h, h1, h2 => by
    rw [ltB_cons] at h1 h2
    by_cases e : a = b
    · subst e
      rw [if_pos rfl] at h1 h2
      rw [ltB_total (by simpa using h) h1 h2]
    · rw [if_neg e] at h1
      rw [if_neg (Ne.symm e)] at h2
      revert h1 h2 e
      cases a <;> cases b <;> simp
  | [], _ :: _, h, _, _ => by cases h
  | _ :: _, [], h, _, _ => by cases h
theorem ltB_trans : ∀ {a b c : List Bool}, ltB a b = true → ltB b c = true → ltB a c = true
  | [], [], _, h, _ => by cases h
  | [], _ :: _, [], _, h => by cases h
  | [], _ :: _, _ :: _, _, _ => rfl
  | _ :: _, [], _, h, _ => by cases h
  | _ :: _, _ :: _, [], _, h => by cases h
  | a :: as, b :: bs, c :: cs, h1, h2 => by
    rw [ltB_cons] at h1 h2 ⊢
    by_cases e : a = b
    · subst e
      rw [if_pos rfl] at h1
      by_cases f : a = c
      · subst f
        rw [if_pos rfl] at h2 ⊢
        exact ltB_trans h1 h2
      · rw [if_neg f] at h2 ⊢
        exact h2
    · rw [if_neg e] at h1
      by_cases f : b = c
      · subst f
        rw [if_neg e]; exact h1
      · rw [if_neg f] at h2
        revert h1 h2 e f
        cases a <;> cases b <;> cases c <;> simp
/-- a set's marks -/
def mks (E p : List Int) : List Bool := E.map fun e => decide (e ∈ p)
def mkR (E : List Int) (ρ : Int → Bool) : List Bool := E.map ρ
def fs : Bt → List Int
  | .leaf _ => []
  | .node x l r => if l = .leaf false then x :: fs r else fs l
theorem fs_node (x : Int) (l r : Bt) : fs (.node x l r) = if l = .leaf false then x :: fs r else fs l := rfl
theorem fs_mem {E : List Int} {t : Bt} (h : Wt E t) : ∀ e ∈ fs t, e ∈ E := by
  induction h with
  | leaf => intro e z; cases z
  | skip _ ih => exact fun e z => List.mem_cons_of_mem _ (ih e z)
  | node _ _ _ i1 i2 =>
    intro e z
    rw [fs_node] at z
    split at z
    · rcases List.mem_cons.mp z with z | z
      · rw [z]; simp
      · exact List.mem_cons_of_mem _ (i2 e z)
    · exact List.mem_cons_of_mem _ (i1 e z)
theorem fs_asc {E : List Int} (ha : Asc E) {t : Bt} (h : Wt E t) : Asc (fs t) := by
  induction h with
  | leaf => exact List.Pairwise.nil
  | skip _ ih => exact ih (List.pairwise_cons.mp ha).2
  | node hl hr _ i1 i2 =>
    have ha' := List.pairwise_cons.mp ha
    rw [fs_node]
    split
    · exact List.pairwise_cons.mpr ⟨fun e z => ha'.1 e (fs_mem hr e z), i2 ha'.2⟩
    · exact i1 ha'.2
theorem mks_skip {E : List Int} {x : Int} (hx : x ∉ E) (p : List Int) : mks E (x :: p) = mks E p := by
  unfold mks
  apply List.map_congr_left
  intro e he
  have : e ≠ x := fun z => hx (by rw [← z]; exact he)
  simp [this]
theorem fs_val {E : List Int} (ha : Asc E) {t : Bt} (h : Wt E t) (hn : t ≠ .leaf false) : t.val (fun e => decide (e ∈ fs t)) = true := by
  induction h with
  | @leaf _ b => cases b <;> simp [Bt.val] at hn ⊢
  | skip _ ih => exact ih (List.pairwise_cons.mp ha).2 hn
  | @node E x l r hl hr hne i1 i2 =>
    have ha' := List.pairwise_cons.mp ha
    have hx : x ∉ E := fun z => Int.lt_irrefl x (ha'.1 x z)
    rw [val_node]
    by_cases e : l = .leaf false
    · have : fs (.node x l r) = x :: fs r := by rw [fs_node, if_pos e]
      rw [this]
      simp only [List.mem_cons, true_or, decide_true, if_true]
      rw [hr.val_congr (σ := fun e => decide (e ∈ fs r)) fun y hy => by
        have : y ≠ x := fun z => hx (by rw [← z]; exact hy)
        simp [this]]
      exact i2 ha'.2 fun z => hne (by rw [e, z])
    · have : fs (.node x l r) = fs l := by rw [fs_node, if_neg e]
      rw [this]
      have hx2 : x ∉ fs l := fun z => hx (fs_mem hl x z)
      simp only [hx2, decide_false]
      exact i1 ha'.2 e
/-- none that holds comes before it -/
theorem fs_min {E : List Int} (ha : Asc E) {t : Bt} (h : Wt E t) : ∀ ρ, t.val ρ = true → ltB (mkR E ρ) (mks E (fs t)) = false := by
  induction h with
  | @leaf E b =>
    intro ρ _
    show ltB (mkR E ρ) (mks E []) = false
    clear ha
    induction E with
    | nil => rfl
    | cons x E ih =>
      show (if ρ x = decide (x ∈ ([] : List Int)) then _ else _) = false
      by_cases e : ρ x = true
      · simp [e]
      · have e' : ρ x = false := by simpa using e
        simp only [e', List.not_mem_nil, decide_false, if_true]
        exact ih
  | @skip E x t hw ih =>
    intro ρ hv
    have ha' := List.pairwise_cons.mp ha
    have hx : x ∉ E := fun z => Int.lt_irrefl x (ha'.1 x z)
    have hx2 : x ∉ fs t := fun z => hx (fs_mem hw x z)
    show (if ρ x = decide (x ∈ fs t) then _ else _) = false
    by_cases e : ρ x = true
    · simp [e, hx2]
    · have e' : ρ x = false := by simpa using e
      simp only [e', hx2, decide_false, if_true]
      exact ih ha'.2 ρ hv
  | @node E x l r hl hr hne i1 i2 =>
    intro ρ hv
    have ha' := List.pairwise_cons.mp ha
    have hx : x ∉ E := fun z => Int.lt_irrefl x (ha'.1 x z)
    rw [val_node] at hv
    by_cases e : l = .leaf false
    · have hf : fs (.node x l r) = x :: fs r := by rw [fs_node, if_pos e]
      rw [hf]
      have e' : ρ x = true := by
        cases z : ρ x
        · rw [z, e] at hv; simp [Bt.val] at hv
        · rfl
      rw [e'] at hv
      have := i2 ha'.2 ρ hv
      show (if ρ x = decide (x ∈ x :: fs r) then ltB (mkR E ρ) (mks E (x :: fs r)) else _) = false
      rw [mks_skip hx]
      simp [e', this]
    · have hf : fs (.node x l r) = fs l := by rw [fs_node, if_neg e]
      rw [hf]
      have hx2 : x ∉ fs l := fun z => hx (fs_mem hl x z)
      show (if ρ x = decide (x ∈ fs l) then ltB (mkR E ρ) (mks E (fs l)) else _) = false
      by_cases k : ρ x = true
      · simp [k, hx2]
      · have k' : ρ x = false := by simpa using k
        rw [k'] at hv
        have := i1 ha'.2 ρ hv
        simp [k', hx2, this]
section
variable {G : Gm} {S : Sto} {s n m r : Nat} {st : Bd} {E : List Int}
abbrev fsT (G : Gm) (k : Nat) : Env → Sto → Res Bool := tst G (run G k) (.cmp (.gt) (.var 1) (.glob 108))
abbrev fsB (G : Gm) (k : Nat) : Env → Sto → RS := exs G (run G k) [.asg (.tup [.var 3, .var 4, .var 5]) (.ix (.fld (.var 0) 3 [1]) (.var 1)), .ifs (.cmp (.eq) (.var 4) (.glob 107)) [.expr (.bm (.append) (.var 2) [.var 3]), .asg (.var 1) (.var 5)] [.asg (.var 1) (.var 4)]]
theorem first_run (g : BG G) (f179 : G.defs 179 = some d179) (hfu : 1000 ≤ G.fuel) (h : DAt S s n m r st) {c : Nat} {t : Bt} (d : Den st.ns c t) (w : Wt E t) (hE : E.length ≤ 100) (k : Nat) :
    run G (k + 1) 179 [.p s, .d (.int (c : Int))] S = if t = .leaf false then .ok (.d .non) S else .ok (.d (.lst ((fs t).map .int))) (S ++ [.dead]) := by
  have c0 := g.c0
  have c1 := g.c1
  have hs := h.hs
  have ls := lt_of_get h.hs
  have ln := lt_of_get h.hn
  have lm := lt_of_get h.hm
  have lr := lt_of_get h.hr
  have zero : ∀ {a : Nat} {u : Bt}, Den st.ns a u → (a = 0 ↔ u = .leaf false) := fun {a u} da => ⟨fun e => by subst e; exact da.zero_inv, fun e => by subst e; simpa using da.leaf_inv⟩
  rw [run_keep (d := d179) f179 rfl rfl]
  by_cases ht : t = .leaf false
  · have := (zero d).mpr ht
    subst this
    rw [if_pos ht]
    simp [d179, b179, c0, frz]
  · rw [if_neg ht]
    have hc : ¬ c = 0 := fun z => ht ((zero d).mp z)
    have hc' : ¬ ((c : Int) = 0) := by omega
    have hT : ∀ L : List Int, DAt (S ++ [.lst (L.map (Vl.d ∘ .int))]) s n m r st := fun L => h.apps
    have loop : ∀ (u : Bt) (a : Nat) (E : List Int), Den st.ns a u → Wt E u → u ≠ .leaf false → ∀ (fu : Nat) (L : List Int) (x3 x4 x5 : Option Vl), u.h < fu → L.length + u.h ≤ 1000 →
        ∃ a' y3 y4 y5, whl (fsT G k) (fsB G k) fu [some (.p s), some (.d (.int (a : Int))), some (.p S.length), x3, x4, x5] (S ++ [.lst (L.map (Vl.d ∘ .int))]) = .nx [some (.p s), some (.d (.int a')), some (.p S.length), y3, y4, y5] (S ++ [.lst ((L ++ fs u).map (Vl.d ∘ .int))]) := by
      intro u
      induction u with
      | leaf b =>
        intro a E da wa hu fu L x3 x4 x5 hfu hL
        obtain ⟨fu, rfl⟩ : ∃ j, fu = j + 1 := ⟨fu - 1, by omega⟩
        cases b
        · exact absurd rfl hu
        · have := da.leaf_inv
          simp at this
          subst this
          refine ⟨1, x3, x4, x5, ?_⟩
          rw [whl_s]
          simp [fsT, c1, kWh_f, fs]
      | node y l v il iv =>
        intro a E da wa hu fu L x3 x4 x5 hfu hL
        simp only [Bt.h] at hfu hL
        obtain ⟨fu, rfl⟩ : ∃ j, fu = j + 1 := ⟨fu - 1, by omega⟩
        obtain ⟨P, E', hE', wl, wv, hne⟩ := wa.split rfl
        obtain ⟨b, b', i1, db, db', h2⟩ := ix_node (hT L) da
        have h2' : (1 : Int) < (a : Int) := by omega
        have ixn0 : ∀ (x : Nd), nodeD x = .tup [.int x.1, .int x.2.1, .int x.2.2] := fun _ => rfl
        have hsT := (hT L).hs
        have hLl : L.length < 16777216 := by omega
        rw [fs_node]
        by_cases el : l = .leaf false
        · have b0 := (zero db).mpr el
          subst b0
          obtain ⟨a', y3, y4, y5, e⟩ := iv b' E' db' wv (fun z => hne (by rw [el, z])) fu (L ++ [y]) (some (.d (.int y))) (some (.d (.int 0))) (some (.d (.int (b' : Int)))) (by omega) (by simp; omega)
          refine ⟨a', y3, y4, y5, ?_⟩
          rw [if_pos el, whl_s]
          simp at e
          simp [-index_p, fsT, fsB, c0, c1, h2', kWh_t, whNx_nx, hsT, i1, ixn0, mAppend, listOf, hLl]
          simpa using e
        · have b0 : ¬ b = 0 := fun z => el ((zero db).mp z)
          have b0' : ¬ ((b : Int) = 0) := by omega
          obtain ⟨a', y3, y4, y5, e⟩ := il b E' db wl el fu L (some (.d (.int y))) (some (.d (.int (b : Int)))) (some (.d (.int (b' : Int)))) (by omega) (by omega)
          refine ⟨a', y3, y4, y5, ?_⟩
          rw [if_neg el, whl_s]
          simp [-index_p, fsT, fsB, c0, c1, h2', kWh_t, whNx_nx, hsT, i1, ixn0, b0]
          simpa using e
    have hh := w.h_le
    obtain ⟨a', y3, y4, y5, e⟩ := loop t c E d w ht G.fuel [] none none none (by omega) (by simp; omega)
    simp at e
    have hz : pures ((fs t).map (Vl.d ∘ .int)) = some ((fs t).map .int) := pures_mapf _ _
    simp [d179, b179, c0, hc', hc, e]
    simp [frz, freeze, hz]
end
end Z
end

section
set_option maxHeartbeats 2000000
set_option maxRecDepth 10000
/-! B14: the table, the size. -/
namespace Z
namespace BD
def b173 : List Z.St := [.ret (.bf (.len) false [.meth (.var 0) [(1, 171)] [.var 1]])]
def d173 : Df := { slots := 2, params := 2, body := b173, keep := true, alone := false, init := false }
def b180 : List Z.St := [.asg (.var 2) (.dct false true [.glob 107, .con (.int 0), .glob 108, .con (.int 1)]), .asg (.var 3) (.lst true []), .fors (.var 4) (.seq) [.meth (.var 0) [(1, 171)] [.lst false [.var 1]]] [.asg (.tup [.var 5, .var 6, .var 7]) (.ix (.fld (.var 0) 3 [1]) (.var 4)), .sub (.var 2) (.var 4) (.op (.add) (.bf (.len) false [.var 3]) (.con (.int 2))), .expr (.bm (.append) (.var 3) [.tup [.var 5, .ix (.var 2) (.var 6), .ix (.var 2) (.var 7)]])], .frz [3], .ret (.tup [.var 3, .ix (.var 2) (.var 1)])]
def d180 : Df := { slots := 8, params := 2, body := b180, keep := true, alone := false, init := false }
end BD
open BD
/-- a number in a table -/
def nm (f : List Nat) (c : Nat) : Nat := if c < 2 then c else f.idxOf c + 2
def tabD (ns : List Nd) (f : List Nat) (c : Nat) : D := match ns[c - 2]? with
  | some x => .tup [.int x.1, .int (nm f x.2.1 : Int), .int (nm f x.2.2 : Int)]
  | none => .non
theorem idx_app {c x : Nat} : ∀ {f : List Nat}, c ∈ f → (f ++ [x]).idxOf c = f.idxOf c
  | [], h => by cases h
  | y :: f, h => by
    rw [List.cons_append, List.idxOf_cons, List.idxOf_cons]
    by_cases e : y = c
    · simp [e]
    · have hb : (y == c) = false := by simpa using e
      rcases List.mem_cons.mp h with h | h
      · exact absurd h.symm e
      · rw [hb, idx_app h]
theorem idx_new {x : Nat} : ∀ {f : List Nat}, x ∉ f → (f ++ [x]).idxOf x = f.length
  | [], _ => by simp
  | y :: f, h => by
    have e : ¬ y = x := fun z => h (by rw [z]; simp)
    have hb : (y == x) = false := by simpa using e
    rw [List.cons_append, List.idxOf_cons, hb, idx_new fun z => h (List.mem_cons_of_mem _ z)]
    simp
theorem nm_app {f : List Nat} {x c : Nat} (h : c < 2 ∨ c ∈ f) : nm (f ++ [x]) c = nm f c := by
  unfold nm
  by_cases k : c < 2
  · rw [if_pos k, if_pos k]
  · rw [if_neg k, if_neg k, idx_app (h.resolve_left k)]
structure Nm (pr : List (Nat × Nat)) (done : List Nat) : Prop where
  has : ∀ c, (c < 2 ∨ c ∈ done) → lookA pr c = some (nm done c)
  new : ∀ c, 2 ≤ c → c ∉ done → lookA pr c = none
theorem Nm.zero : Nm [(0, 0), (1, 1)] [] :=
  ⟨fun c h => (by
    have : c = 0 ∨ c = 1 := by
      rcases h with h | h
      · omega
      · cases h
    rcases this with rfl | rfl <;> rfl), fun c h _ => by
    have h0 : ¬ (0 = c) := by omega
    have h1 : ¬ (1 = c) := by omega
    simp [lookA, h0, h1]⟩
theorem Nm.step {pr : List (Nat × Nat)} {done : List Nat} (h : Nm pr done) {x : Nat} (hx : 2 ≤ x) (hn : x ∉ done) : Nm (pr ++ [(x, done.length + 2)]) (done ++ [x]) :=
  ⟨fun c hc => by
    by_cases k : c < 2 ∨ c ∈ done
    · rw [lookA_snoc, h.has c k, nm_app k]
    · have hcx : c = x := by
        rcases hc with hc | hc
        · exact absurd (.inl hc) k
        · rcases List.mem_append.mp hc with hc | hc
          · exact absurd (.inr hc) k
          · exact List.mem_singleton.mp hc
      subst hcx
      rw [lookA_snoc, h.new c hx hn]
      show (if c = c then some (done.length + 2) else none) = some (nm (done ++ [c]) c)
      have : nm (done ++ [c]) c = done.length + 2 := by
        unfold nm
        rw [if_neg (by omega), idx_new hn]
      rw [if_pos rfl, this],
   fun c hc hd => by
    rw [lookA_snoc, h.new c hc fun z => hd (List.mem_append_left _ z)]
    have : x ≠ c := fun z => hd (by rw [z]; simp)
    simp [this]⟩
section
variable {G : Gm} {S : Sto} {s n m r : Nat} {st : Bd} {E : List Int}
theorem size_run (g : BG G) (f171 : G.defs 171 = some d171) (f172 : G.defs 172 = some d172) (f173 : G.defs 173 = some d173) (hfu : 10000000 ≤ G.fuel) (h : DAt S s n m r st) (k : Nat) {W : Nat} {cts : List (Bt × Nat)} (hd : ∀ p ∈ cts, Den st.ns p.2 p.1 ∧ p.1.size ≤ W) (hW : cts.length * W ≤ 1000000) (hW2 : W ≤ 1000000) :
    ∃ more, run G (k + 3) 173 [.p s, .d (.lst (cts.map fun p => encN p.2))] S = .ok (.d (.int ((walkA st.ns cts []).length : Int))) (S ++ more) ∧ Closed st.ns (walkA st.ns cts []) ∧ (walkA st.ns cts []).Nodup := by
  obtain ⟨more, e, h1, h2, h3⟩ := reached_run g f171 f172 hfu h k hd hW hW2
  have hs := h.hs
  refine ⟨more, ?_, h1, h2⟩
  rw [run_keep (d := d173) f173 rfl rfl]
  simp [d173, b173, hs, e]
abbrev tbB (G : Gm) (k : Nat) : Env → Sto → RS := exs G (run G k) [.asg (.tup [.var 5, .var 6, .var 7]) (.ix (.fld (.var 0) 3 [1]) (.var 4)), .sub (.var 2) (.var 4) (.op (.add) (.bf (.len) false [.var 3]) (.con (.int 2))), .expr (.bm (.append) (.var 3) [.tup [.var 5, .ix (.var 2) (.var 6), .ix (.var 2) (.var 7)]])]
/-- the rows so far -/
def rows (ns : List Nd) (f : List Nat) : List Nat → List D := fun done => done.map (tabD ns f)
theorem tb_step {T : Sto} (h : DAt T s n m r st) {R P : Nat} (q : R ≠ s ∧ R ≠ n ∧ R ≠ m ∧ R ≠ r) (q2 : P ≠ s ∧ P ≠ n ∧ P ≠ m ∧ P ≠ r) (qne : R ≠ P) {pr : List (Nat × Nat)} {done : List Nat} {ds : List D} (hr : T[R]? = some (.dct false (enV encN pr))) (hp : T[P]? = some (.lst (ds.map .d))) (hds : ds.length = done.length) (inv : Nm pr done) (hpl : pr.length < 1000000) (hdl : done.length < 1000000)
    {i : Nat} {y : Int} {u v : Nat} (hi : st.ns[i]? = some (y, u, v)) (hd : i + 2 ∉ done) (hk : ∀ p ∈ kids st.ns (i + 2), p ∈ done) (k c : Nat) (x5 x6 x7 : Option Vl) :
    ∃ y5 y6 y7, tbB G k [some (.p s), some (.d (.int (c : Int))), some (.p R), some (.p P), some (.d (.int ((i : Int) + 2))), x5, x6, x7] T = .nx [some (.p s), some (.d (.int (c : Int))), some (.p R), some (.p P), some (.d (.int ((i : Int) + 2))), y5, y6, y7] ((T.set R (.dct false (enV encN (pr ++ [(i + 2, done.length + 2)])))).set P (.lst ((ds ++ [D.tup [.int y, .int (nm done u : Int), .int (nm done v : Int)]]).map .d))) := by
  have hss := h.hs
  have lR := lt_of_get hr
  have lP := lt_of_get hp
  have i1 := ix_ndc h hi
  have ixn0 : ∀ (x : Nd), nodeD x = .tup [.int x.1, .int x.2.1, .int x.2.2] := fun _ => rfl
  have ku : u < 2 ∨ u ∈ done := by
    by_cases z : u < 2
    · exact .inl z
    · exact .inr (hk u ((mem_kids hi).mpr ⟨.inl rfl, by omega⟩))
  have kv : v < 2 ∨ v ∈ done := by
    by_cases z : v < 2
    · exact .inl z
    · exact .inr (hk v ((mem_kids hi).mpr ⟨.inr rfl, by omega⟩))
  have inv2 := inv.step (by omega : 2 ≤ i + 2) hd
  have lu := inv2.has u (by rcases ku with h | h; exact .inl h; exact .inr (List.mem_append_left _ h))
  have lv := inv2.has v (by rcases kv with h | h; exact .inl h; exact .inr (List.mem_append_left _ h))
  rw [nm_app ku] at lu
  rw [nm_app kv] at lv
  have hnew := inv.new (i + 2) (by omega) hd
  have hz : (enV encN pr).length < 16777216 := by unfold enV; rw [List.length_map]; omega
  have pu := put_enV encN hnew (done.length + 2)
  have ci : ((i + 2 : Nat) : Int) = (i : Int) + 2 := by omega
  rw [ci] at pu
  have sI : setItem (.p R) (.d (.int ((i : Int) + 2))) (.d (.int ((done.length : Int) + 2))) T = some (T.set R (.dct false (enV encN (pr ++ [(i + 2, done.length + 2)])))) := by
    rw [setItem_dct hr, ← pu]
    simp [keyOk, flatKey, hz, encN]
  have fu := find_enV encN (pr ++ [(i + 2, done.length + 2)]) u
  have fv := find_enV encN (pr ++ [(i + 2, done.length + 2)]) v
  rw [lu] at fu
  rw [lv] at fv
  have hR2 : (T.set R (.dct false (enV encN (pr ++ [(i + 2, done.length + 2)]))))[R]? = some (.dct false (enV encN (pr ++ [(i + 2, done.length + 2)]))) := List.getElem?_set_self lR
  have iu : index (.p R) (.d (.int (u : Int))) (T.set R (.dct false (enV encN (pr ++ [(i + 2, done.length + 2)])))) = .ok (.d (.int (nm done u : Int))) (T.set R (.dct false (enV encN (pr ++ [(i + 2, done.length + 2)])))) := by rw [index_p, hR2]; simp [fu, keyOk, flatKey, encN]
  have iv : index (.p R) (.d (.int (v : Int))) (T.set R (.dct false (enV encN (pr ++ [(i + 2, done.length + 2)])))) = .ok (.d (.int (nm done v : Int))) (T.set R (.dct false (enV encN (pr ++ [(i + 2, done.length + 2)])))) := by rw [index_p, hR2]; simp [fv, keyOk, flatKey, encN]
  have hP2 : (T.set R (.dct false (enV encN (pr ++ [(i + 2, done.length + 2)]))))[P]? = some (.lst (ds.map .d)) := (List.getElem?_set_ne qne).trans hp
  have bl : bLen (.p P) T = .ok (.d (.int (done.length : Int))) T := by simp [bLen, seqOf, hp, hds]
  have hz2 : ds.length < 16777216 := by omega
  refine ⟨some (.d (.int y)), some (.d (.int (u : Int))), some (.d (.int (v : Int))), ?_⟩
  simp [-index_p, tbB, hss, i1, ixn0, bl, sI, iu, iv, mAppend, listOf, hP2, hz2]
theorem tabD_app {ns : List Nd} {f : List Nat} (ho : Ord ns f) {x : Nat} {c : Nat} (hc : c ∈ f) : tabD ns (f ++ [x]) c = tabD ns f c := by
  obtain ⟨pre, post, e⟩ := List.append_of_mem hc
  obtain ⟨h2, _, hk⟩ := ho pre c post e
  unfold tabD
  cases hi : ns[c - 2]? with
  | none => rfl
  | some y =>
    have hi' : ns[c - 2]? = some y := hi
    have hc2 : c = (c - 2) + 2 := by omega
    have sub : ∀ p, (p = y.2.1 ∨ p = y.2.2) → p < 2 ∨ p ∈ f := fun p hp => by
      by_cases z : p < 2
      · exact .inl z
      · refine .inr ?_
        rw [e]
        refine List.mem_append_left _ (hk p ?_)
        rw [hc2]
        exact (mem_kids hi').mpr ⟨hp, by omega⟩
    dsimp only
    rw [nm_app (sub _ (.inl rfl)), nm_app (sub _ (.inr rfl))]
theorem table_run (g : BG G) (f171 : G.defs 171 = some d171) (f172 : G.defs 172 = some d172) (f180 : G.defs 180 = some d180) (hfu : 10000000 ≤ G.fuel) (h : DAt S s n m r st) (hE10 : E.length ≤ 10) (k : Nat) {c : Nat} {t : Bt} (d : Den st.ns c t) (w : Wt E t) :
    ∃ more, run G (k + 3) 180 [.p s, .d (.int (c : Int))] S = .ok (.d (.tup [.lst ((walkT st.ns t c []).map (tabD st.ns (walkT st.ns t c []))), .int (nm (walkT st.ns t c []) c : Int)])) (S ++ more) := by
  have c0 := g.c0
  have c1 := g.c1
  have ls := lt_of_get h.hs
  have ln := lt_of_get h.hn
  have lm := lt_of_get h.hm
  have lr := lt_of_get h.hr
  obtain ⟨more, er, hc, hlen, hl2⟩ := reached1 (S := S ++ [.dct false (enV encN [(0, 0), (1, 1)]), .lst []]) g f171 f172 hfu h.apps k d w hE10
  have ord := walk_ord0 d
  have hden : ∀ x ∈ walkT st.ns t c [], ∃ i y u v, x = i + 2 ∧ st.ns[i]? = some (y, u, v) ∧ ∃ l r, Den st.ns u l ∧ Den st.ns v r ∧ Den st.ns x (.node y l r) ∧ ∀ e, occ (.node y l r) e → occ t e := fun x hx => den_walk d hx
  have hcw : c < 2 ∨ c ∈ walkT st.ns t c [] := by
    by_cases z : c < 2
    · exact .inl z
    · exact .inr (walk_mem d (by omega))
  generalize walkT st.ns t c [] = F at *
  have loop : ∀ (post done : List Nat) (pr : List (Nat × Nat)) (x4 x5 x6 x7 : Option Vl), F = done ++ post → pr.length = done.length + 2 → Nm pr done →
      ∃ pr' y4 y5 y6 y7, fors (tbB G (k + 2)) (.var 4) (post.map (Vl.d ∘ encN)) [some (.p s), some (.d (.int (c : Int))), some (.p S.length), some (.p (S.length + 1)), x4, x5, x6, x7] (S ++ .dct false (enV encN pr) :: .lst ((done.map (tabD st.ns done)).map .d) :: more) = .nx [some (.p s), some (.d (.int (c : Int))), some (.p S.length), some (.p (S.length + 1)), y4, y5, y6, y7] (S ++ .dct false (enV encN pr') :: .lst ((F.map (tabD st.ns F)).map .d) :: more) ∧ Nm pr' F := by
    intro post
    induction post with
    | nil =>
      intro done pr x4 x5 x6 x7 e1 p1 inv
      rw [List.append_nil] at e1
      subst e1
      exact ⟨pr, x4, x5, x6, x7, rfl, inv⟩
    | cons x post ih =>
      intro done pr x4 x5 x6 x7 e1 p1 inv
      obtain ⟨h2x, hxd, hkx⟩ := ord done x post e1
      obtain ⟨i, y, u, v, rfl, k1, l, r', du, dv, dx, _⟩ := hden x (by rw [e1]; simp)
      have hlen2 : done.length + (post.length + 1) ≤ 2048 := by
        have := congrArg List.length e1
        simp at this
        omega
      have odone : Ord st.ns done := fun pre z po e => ord pre z (po ++ (i + 2) :: post) (by rw [e1, e]; simp)
      obtain ⟨y5, y6, y7, e2⟩ := tb_step (T := S ++ .dct false (enV encN pr) :: .lst ((done.map (tabD st.ns done)).map .d) :: more) (R := S.length) (P := S.length + 1) (ds := done.map (tabD st.ns done)) h.apps ⟨by omega, by omega, by omega, by omega⟩ ⟨by omega, by omega, by omega, by omega⟩ (by omega) (by simp) (by simp) (by simp) inv (by omega) (by omega) k1 hxd hkx (k + 2) c x5 x6 x7
      obtain ⟨pr', z4, z5, z6, z7, e3, inv'⟩ := ih (done ++ [i + 2]) (pr ++ [(i + 2, done.length + 2)]) (some (.d (.int ((i : Int) + 2)))) y5 y6 y7 (by rw [e1]; simp) (by simp; omega) (inv.step (by omega) hxd)
      refine ⟨pr', z4, z5, z6, z7, ?_, inv'⟩
      have ht : (done ++ [i + 2]).map (tabD st.ns (done ++ [i + 2])) = done.map (tabD st.ns done) ++ [D.tup [.int y, .int (nm done u : Int), .int (nm done v : Int)]] := by
        rw [List.map_append]
        congr 1
        · exact List.map_congr_left fun z hz => tabD_app odone hz
        · simp only [List.map_cons, List.map_nil, tabD]
          rw [show i + 2 - 2 = i by omega, k1]
          have ku : u < 2 ∨ u ∈ done := by
            by_cases z : u < 2
            · exact .inl z
            · exact .inr (hkx u ((mem_kids k1).mpr ⟨.inl rfl, by omega⟩))
          have kv : v < 2 ∨ v ∈ done := by
            by_cases z : v < 2
            · exact .inl z
            · exact .inr (hkx v ((mem_kids k1).mpr ⟨.inr rfl, by omega⟩))
          dsimp only
          rw [nm_app ku, nm_app kv]
      rw [ht] at e3
      rw [List.map_cons, fors_var]
      have e' : tbB G (k + 2) ([some (.p s), some (.d (.int (c : Int))), some (.p S.length), some (.p (S.length + 1)), x4, x5, x6, x7].set 4 (some ((Vl.d ∘ encN) (i + 2)))) _ = _ := e2
      rw [e', forNx_nx]
      simp at e3 ⊢
      exact e3
  obtain ⟨pr', y4, y5, y6, y7, e1, inv⟩ := loop F [] [(0, 0), (1, 1)] none none none none rfl rfl Nm.zero
  have lc := inv.has c hcw
  have fc := find_enV encN pr' c
  rw [lc] at fc
  have hs2 : (S ++ [Cell.dct false (enV encN [(0, 0), (1, 1)]), .lst []])[s]? = _ := (h.apps (more := [Cell.dct false (enV encN [(0, 0), (1, 1)]), .lst []])).hs
  have hz : pures ((F.map (tabD st.ns F)).map .d) = some (F.map (tabD st.ns F)) := pures_map _
  refine ⟨.dct false (enV encN pr') :: .dead :: more, ?_⟩
  rw [run_keep (d := d180) f180 rfl rfl]
  simp [enV, encN] at er e1 hs2
  have hz' : pures (F.map (Vl.d ∘ tabD st.ns F)) = some (F.map (tabD st.ns F)) := pures_mapf _ _
  have hfr : frz [3] [some (.p s), some (.d (.int (c : Int))), some (.p S.length), some (.p (S.length + 1)), y4, y5, y6, y7] (S ++ .dct false (List.map (fun p => (D.int (p.1 : Int), Vl.d (D.int (p.2 : Int)))) pr') :: .lst (F.map (Vl.d ∘ tabD st.ns F)) :: more) = some ([some (.p s), some (.d (.int (c : Int))), some (.p S.length), some (.d (.lst (F.map (tabD st.ns F)))), y4, y5, y6, y7], S ++ .dct false (List.map (fun p => (D.int (p.1 : Int), Vl.d (D.int (p.2 : Int)))) pr') :: .dead :: more) := by
    simp [frz, freeze, hz']
  simp [enV, encN] at fc
  simp [d180, b180, c0, c1, disp01, hs2, er, e1, hfr, fc, keyOk, flatKey, enV, encN]
end
end Z
end

section
set_option maxHeartbeats 2000000
set_option maxRecDepth 10000
/-! B15: truths over all sets, fixed at an entry. -/
namespace Z
namespace BD
def b683 : List Z.St := [.ret (.bf (.tuple) false [.lc false (.call 681 [.var 0, .var 2]) (.var 2) [2] (.seq) [.call 682 [.var 1]] none])]
def d683 : Df := { slots := 3, params := 2, body := b683, keep := false, alone := true, init := false }
def b684 : List Z.St := [.asg (.var 3) (.con (.int 1)), .fors (.var 4) (.range) [.var 1] [.asg (.var 3) (.op (.mul) (.var 3) (.con (.int 2)))], .asg (.var 5) (.lst true []), .fors (.var 6) (.range) [.bf (.len) false [.var 0]] [.asg (.var 7) (.ite (.cmp (.eq) (.op (.mod) (.op (.fdiv) (.var 6) (.var 3)) (.con (.int 2))) (.con (.int 1))) (.op (.sub) (.var 6) (.var 3)) (.var 6)), .expr (.bm (.append) (.var 5) [.ix (.var 0) (.op (.add) (.var 7) (.op (.mul) (.var 3) (.var 2)))])], .frz [5], .ret (.bf (.tuple) false [.var 5])]
def d684 : Df := { slots := 8, params := 3, body := b684, keep := false, alone := true, init := false }
def b685 : List Z.St := [.fors (.var 2) (.range) [.var 1] [.ifs (.cmp (.ne) (.call 684 [.var 0, .var 2, .con (.int 0)]) (.call 684 [.var 0, .var 2, .con (.int 1)])) [.ret (.var 2)] []], .ret (.con (.non))]
def d685 : Df := { slots := 3, params := 2, body := b685, keep := false, alone := true, init := false }
def b686 : List Z.St := [.asg (.var 2) (.lst true []), .asg (.var 3) (.bf (.list) true [.var 0]), .whl (.var 3) [.asg (.var 4) (.bm (.pop) (.var 3) []), .asg (.var 5) (.call 685 [.var 4, .var 1]), .ifs (.and (.cmp (.isn) (.var 5) (.con (.non))) (.cmp (.nmem) (.var 4) (.var 2))) [.expr (.bm (.append) (.var 2) [.var 4]), .expr (.bm (.append) (.var 3) [.call 684 [.var 4, .var 5, .con (.int 0)]]), .expr (.bm (.append) (.var 3) [.call 684 [.var 4, .var 5, .con (.int 1)]])] []], .ret (.var 2)]
def d686 : Df := { slots := 6, params := 2, body := b686, keep := false, alone := true, init := false }
end BD
open BD
/-- what is at a place with one entry fixed -/
def fxAt (j b at_ : Nat) : Nat := (if at_ / 2 ^ j % 2 = 1 then at_ - 2 ^ j else at_) + 2 ^ j * b
def fx (l : List Bool) (j b : Nat) : List Bool := (List.range l.length).map fun i => (l[fxAt j b i]?).getD false
theorem fx_len (l : List Bool) (j b : Nat) : (fx l j b).length = l.length := by simp [fx]
theorem odd_pos : ∀ {q : Nat}, q % 2 = 1 → 1 ≤ q := fun {q} h => by omega
theorem even_room : ∀ {q M : Nat}, q < 2 * M → ¬ q % 2 = 1 → q + 2 ≤ 2 * M := fun {q M} h k => by omega
theorem two_mod : ∀ (M q : Nat), (2 * M + q) % 2 = q % 2 := fun M q => by omega
theorem fxAt_lt {j n b i : Nat} (hj : j < n) (hb : b < 2) (hi : i < 2 ^ n) : fxAt j b i < 2 ^ n := by
  unfold fxAt
  obtain ⟨m, rfl⟩ : ∃ m, n = j + 1 + m := ⟨n - (j + 1), by omega⟩
  have hp : 0 < 2 ^ j := Nat.two_pow_pos j
  have h2 : 2 ^ (j + 1 + m) = 2 ^ j * (2 * 2 ^ m) := by rw [Nat.pow_add, Nat.pow_succ, Nat.mul_assoc]
  rw [h2] at hi ⊢
  have hq : i / 2 ^ j < 2 * 2 ^ m := Nat.div_lt_of_lt_mul hi
  have hi2 := Nat.div_add_mod i (2 ^ j)
  have hr := Nat.mod_lt i hp
  have hb2 : 2 ^ j * b ≤ 2 ^ j := by
    have : b ≤ 1 := by omega
    calc 2 ^ j * b ≤ 2 ^ j * 1 := Nat.mul_le_mul_left _ this
      _ = 2 ^ j := Nat.mul_one _
  by_cases h : i / 2 ^ j % 2 = 1
  · rw [if_pos h]
    have : 2 ^ j ≤ i := by
      have : 1 ≤ i / 2 ^ j := odd_pos h
      calc 2 ^ j = 2 ^ j * 1 := (Nat.mul_one _).symm
        _ ≤ 2 ^ j * (i / 2 ^ j) := Nat.mul_le_mul_left _ this
        _ ≤ i := Nat.mul_div_le _ _
    omega
  · rw [if_neg h]
    have hq2 : i / 2 ^ j + 2 ≤ 2 * 2 ^ m := even_room hq h
    have := Nat.mul_le_mul_left (2 ^ j) hq2
    rw [Nat.mul_add] at this
    omega
theorem fxAt_hi {j n b i : Nat} (hj : j < n) (hi : i < 2 ^ n) : fxAt j b (2 ^ n + i) = 2 ^ n + fxAt j b i := by
  unfold fxAt
  obtain ⟨m, rfl⟩ : ∃ m, n = j + 1 + m := ⟨n - (j + 1), by omega⟩
  have hp : 0 < 2 ^ j := Nat.two_pow_pos j
  have h2 : 2 ^ (j + 1 + m) = 2 ^ j * (2 * 2 ^ m) := by rw [Nat.pow_add, Nat.pow_succ, Nat.mul_assoc]
  rw [h2, Nat.mul_add_div hp]
  have : (2 * 2 ^ m + i / 2 ^ j) % 2 = i / 2 ^ j % 2 := two_mod _ _
  rw [this]
  by_cases h : i / 2 ^ j % 2 = 1
  · rw [if_pos h, if_pos h]
    have : 2 ^ j ≤ i := by
      have : 1 ≤ i / 2 ^ j := odd_pos h
      calc 2 ^ j = 2 ^ j * 1 := (Nat.mul_one _).symm
        _ ≤ 2 ^ j * (i / 2 ^ j) := Nat.mul_le_mul_left _ this
        _ ≤ i := Nat.mul_div_le _ _
    omega
  · rw [if_neg h, if_neg h]; omega
theorem fx_low {A B : List Bool} {n j b : Nat} (hA : A.length = 2 ^ n) (hB : B.length = 2 ^ n) (hj : j < n) (hb : b < 2) : fx (A ++ B) j b = fx A j b ++ fx B j b := by
  apply List.ext_getElem?
  intro i
  unfold fx
  rw [List.getElem?_map, List.length_append]
  by_cases h : i < 2 ^ n
  · rw [List.getElem?_append_left (by simp [hA, h])]
    rw [List.getElem?_map, List.getElem?_range (by omega), List.getElem?_range (by omega)]
    simp only [Option.map_some]
    rw [List.getElem?_append_left (by rw [hA]; exact fxAt_lt hj hb h)]
  · by_cases h2 : i < 2 ^ n + 2 ^ n
    · obtain ⟨i', rfl⟩ : ∃ i', i = 2 ^ n + i' := ⟨i - 2 ^ n, by omega⟩
      rw [List.getElem?_append_right (by simp [hA])]
      simp only [List.length_map, List.length_range, hA]
      rw [List.getElem?_map, List.getElem?_range (by omega), List.getElem?_range (by omega), show 2 ^ n + i' - 2 ^ n = i' by omega]
      simp only [Option.map_some]
      rw [fxAt_hi hj (by omega), List.getElem?_append_right (by rw [hA]; omega), hA, show 2 ^ n + fxAt j b i' - 2 ^ n = fxAt j b i' by omega]
    · rw [List.getElem?_eq_none (by simp; omega), List.getElem?_eq_none (by simp; omega)]; rfl
theorem fx_top {A B : List Bool} {n b : Nat} (hA : A.length = 2 ^ n) (hB : B.length = 2 ^ n) (hb : b < 2) : fx (A ++ B) n b = (if b = 1 then B else A) ++ (if b = 1 then B else A) := by
  have hp : 0 < 2 ^ n := Nat.two_pow_pos n
  have key : ∀ i, i < 2 ^ n → fxAt n b i = i + 2 ^ n * b ∧ fxAt n b (2 ^ n + i) = i + 2 ^ n * b := fun i hi => by
    unfold fxAt
    have h0 : i / 2 ^ n = 0 := Nat.div_eq_of_lt hi
    have h1 : (2 ^ n + i) / 2 ^ n = 1 := by
      have := Nat.mul_add_div hp 1 i
      rw [Nat.mul_one] at this
      rw [this, h0]
    rw [h0, h1]
    constructor
    · simp
    · simp
  apply List.ext_getElem?
  intro i
  unfold fx
  rw [List.getElem?_map, List.length_append]
  have hlen : (if b = 1 then B else A).length = 2 ^ n := by split <;> assumption
  have get : ∀ i, i < 2 ^ n → ((A ++ B)[i + 2 ^ n * b]?).getD false = ((if b = 1 then B else A)[i]?).getD false := fun i hi => by
    have : b = 0 ∨ b = 1 := by omega
    rcases this with rfl | rfl
    · rw [Nat.mul_zero, Nat.add_zero, List.getElem?_append_left (by omega)]; rfl
    · rw [Nat.mul_one, List.getElem?_append_right (by omega), hA, show i + 2 ^ n - 2 ^ n = i by omega]; rfl
  have some_ : ∀ i, i < 2 ^ n → (if b = 1 then B else A)[i]? = some (((if b = 1 then B else A)[i]?).getD false) := fun i hi => by
    rw [List.getElem?_eq_getElem (by omega)]; rfl
  by_cases h : i < 2 ^ n
  · rw [List.getElem?_range (by omega), List.getElem?_append_left (by omega), some_ i h]
    simp only [Option.map_some]
    rw [(key i h).1, get i h]
  · by_cases h2 : i < 2 ^ n + 2 ^ n
    · obtain ⟨i', rfl⟩ : ∃ i', i = 2 ^ n + i' := ⟨i - 2 ^ n, by omega⟩
      rw [List.getElem?_range (by omega), List.getElem?_append_right (by omega), hlen, show 2 ^ n + i' - 2 ^ n = i' by omega, some_ i' (by omega)]
      simp only [Option.map_some]
      rw [(key i' (by omega)).2, get i' (by omega)]
    · rw [List.getElem?_eq_none (by simp; omega), List.getElem?_eq_none (by simp; omega)]; rfl
def fU (f : (Int → Bool) → Bool) (e : Int) (b : Bool) : (Int → Bool) → Bool := fun ρ => f (upB ρ e b)
theorem Tv_snoc {E : List Int} {x : Int} (hx : x ∉ E) (f : (Int → Bool) → Bool) : Tv (E ++ [x]) f = Tv E (fU f x false) ++ Tv E (fU f x true) := by
  unfold Tv
  rw [subs_snoc, List.map_append]
  congr 1
  · apply List.map_congr_left
    intro p hp
    have : (fun y => decide (y ∈ p)) = upB (fun y => decide (y ∈ p)) x false := by
      funext y
      unfold upB
      by_cases e : y = x
      · subst e
        have : y ∉ p := fun z => hx (subs_sub hp y z)
        simp [this]
      · simp [e]
    show f _ = f _
    rw [← this]
  · rw [List.map_map]
    apply List.map_congr_left
    intro p hp
    have : (fun y => decide (y ∈ p ++ [x])) = upB (fun y => decide (y ∈ p)) x true := by
      funext y
      unfold upB
      by_cases e : y = x <;> simp [e]
    show f _ = f _
    rw [this]
/-- fixed truths are the truths of what is fixed -/
theorem fx_Tv {E : List Int} (hn : E.Nodup) (f : (Int → Bool) → Bool) {j : Nat} (hj : j < E.length) {b : Nat} (hb : b < 2) : fx (Tv E f) j b = Tv E (fU f E[j] (decide (b = 1))) := by
  induction E using snoc_ind generalizing f with
  | h0 => cases hj
  | h1 xs x ih =>
    have hn' := List.nodup_append.mp hn
    have hx : x ∉ xs := fun z => hn'.2.2 x z x (by simp) rfl
    have l : ∀ g : (Int → Bool) → Bool, (Tv xs g).length = 2 ^ xs.length := fun g => by simp [Tv, subs_len]
    rw [Tv_snoc hx, Tv_snoc hx]
    by_cases h : j < xs.length
    · rw [fx_low (l _) (l _) h hb, ih hn'.1 _ h, ih hn'.1 _ h]
      have e : (xs ++ [x])[j] = xs[j] := List.getElem_append_left h
      have hne : xs[j] ≠ x := fun z => hx (by rw [← z]; exact List.getElem_mem h)
      rw [e]
      have cm : ∀ c d : Bool, fU (fU f x c) xs[j] d = fU (fU f xs[j] d) x c := fun c d => by
        funext ρ
        unfold fU
        rw [up_comm hne]
      rw [cm, cm]
    · have hjx : j = xs.length := by simp at hj; omega
      subst hjx
      rw [fx_top (l _) (l _) hb]
      have e : (xs ++ [x])[xs.length] = x := by simp
      have cc : ∀ c d : Bool, fU (fU f x d) x c = fU f x d := fun c d => by
        funext ρ
        unfold fU
        congr 1
        funext y
        unfold upB
        split <;> rfl
      rw [e, cc, cc]
      have : b = 0 ∨ b = 1 := by omega
      rcases this with rfl | rfl <;> rfl
section
variable {G : Gm} {S : Sto} {E : List Int}
def tupB (l : List Bool) : D := .tup (l.map .bl)
theorem step_loop (k : Nat) (a0 a1 a2 a5 a6 a7 : Option Vl) (S : Sto) : ∀ (xs : List Nat) (d : Nat) (x4 : Option Vl), ∃ y4, fors (exs G (run G k) [.asg (.var 3) (.op (.mul) (.var 3) (.con (.int 2)))]) (.var 4) (xs.map (Vl.d ∘ encN)) [a0, a1, a2, some (.d (.int (d : Int))), x4, a5, a6, a7] S = .nx [a0, a1, a2, some (.d (.int ((d * 2 ^ xs.length : Nat) : Int))), y4, a5, a6, a7] S
  | [], d, x4 => ⟨x4, by simp [fors_none]⟩
  | x :: xs, d, x4 => by
    obtain ⟨y4, e⟩ := step_loop k a0 a1 a2 a5 a6 a7 S xs (d * 2) (some (.d (encN x)))
    refine ⟨y4, ?_⟩
    rw [List.map_cons, fors_var]
    have c2 : cMul (d : Int) 2 = true := by simp [cMul]
    have : d * 2 * 2 ^ xs.length = d * 2 ^ (x :: xs).length := by rw [List.length_cons, Nat.pow_succ, Nat.mul_assoc, Nat.mul_comm 2]
    rw [this] at e
    have hc : ((d * 2 : Nat) : Int) = (d : Int) * 2 := by omega
    rw [hc] at e
    simp [c2, forNx_nx]
    simpa using e
abbrev fxB (G : Gm) (k : Nat) : Env → Sto → RS := exs G (run G k) [.asg (.var 7) (.ite (.cmp (.eq) (.op (.mod) (.op (.fdiv) (.var 6) (.var 3)) (.con (.int 2))) (.con (.int 1))) (.op (.sub) (.var 6) (.var 3)) (.var 6)), .expr (.bm (.append) (.var 5) [.ix (.var 0) (.op (.add) (.var 7) (.op (.mul) (.var 3) (.var 2)))])]
theorem fx_loop (k : Nat) (a1 x4 : Option Vl) {bs : List Bool} {n j b : Nat} (hl : bs.length = 2 ^ n) (hn : n ≤ 20) (hj : j < n) (hb : b < 2) : ∀ (xs : List Nat) (acc : List Bool) (x6 x7 : Option Vl), (∀ x ∈ xs, x < 2 ^ n) → acc.length + xs.length ≤ 2 ^ 20 →
    ∃ y6 y7, fors (fxB G k) (.var 6) (xs.map (Vl.d ∘ encN)) [some (.d (tupB bs)), a1, some (.d (.int (b : Int))), some (.d (.int ((2 ^ j : Nat) : Int))), x4, some (.p 0), x6, x7] [.lst (acc.map (Vl.d ∘ .bl))] = .nx [some (.d (tupB bs)), a1, some (.d (.int (b : Int))), some (.d (.int ((2 ^ j : Nat) : Int))), x4, some (.p 0), y6, y7] [.lst ((acc ++ xs.map fun i => (bs[fxAt j b i]?).getD false).map (Vl.d ∘ .bl))]
  | [], acc, x6, x7, _, _ => ⟨x6, x7, by simp [fors_none]⟩
  | x :: xs, acc, x6, x7, hx, hal => by
    rw [List.length_cons] at hal
    obtain ⟨y6, y7, e⟩ := fx_loop k a1 x4 hl hn hj hb xs (acc ++ [(bs[fxAt j b x]?).getD false]) (some (.d (.int (x : Int)))) (some (.d (.int ((if x / 2 ^ j % 2 = 1 then x - 2 ^ j else x : Nat) : Int)))) (fun y hy => hx y (List.mem_cons_of_mem _ hy)) (by simp; omega)
    refine ⟨y6, y7, ?_⟩
    have hlt := fxAt_lt hj hb (hx x (by simp))
    have p20 : 2 ^ 20 = 1048576 := rfl
    have hz : acc.length < 16777216 := by omega
    have hp : 0 < 2 ^ j := Nat.two_pow_pos j
    have hp2 : 2 ^ j ≤ 2 ^ 20 := Nat.pow_le_pow_right (by decide) (by omega)
    have get : (bs[fxAt j b x]?) = some ((bs[fxAt j b x]?).getD false) := by rw [List.getElem?_eq_getElem (by omega)]; rfl
    have hdiv : (x : Int) / ((2 ^ j : Nat) : Int) = ((x / 2 ^ j : Nat) : Int) := (Int.natCast_ediv _ _).symm
    have hmod : ((x / 2 ^ j : Nat) : Int) % 2 = ((x / 2 ^ j % 2 : Nat) : Int) := by omega
    have hmul : ((2 ^ j : Nat) : Int) * (b : Int) = ((2 ^ j * b : Nat) : Int) := (Int.natCast_mul _ _).symm
    have cm : cMul ((2 ^ j : Nat) : Int) (b : Int) = true := by unfold cMul; simp; omega
    have q1 : (0 : Int) < ((2 ^ j : Nat) : Int) := by omega
    have q2 : ((2 ^ j : Nat) : Int) < 1073741824 := by omega
    have hbase : ∀ h : x / 2 ^ j % 2 = 1, 2 ^ j ≤ x := fun h => by
      have : 1 ≤ x / 2 ^ j := odd_pos h
      calc 2 ^ j = 2 ^ j * 1 := (Nat.mul_one _).symm
        _ ≤ 2 ^ j * (x / 2 ^ j) := Nat.mul_le_mul_left _ this
        _ ≤ x := Nat.mul_div_le _ _
    have ixf : index (.d (tupB bs)) (.d (.int ((if x / 2 ^ j % 2 = 1 then x - 2 ^ j else x : Nat) + (2 ^ j * b : Nat) : Int))) [.lst (acc.map (Vl.d ∘ .bl))] = .ok (.d (.bl ((bs[fxAt j b x]?).getD false))) [.lst (acc.map (Vl.d ∘ .bl))] := by
      have e1 : (((if x / 2 ^ j % 2 = 1 then x - 2 ^ j else x : Nat) : Int) + (2 ^ j * b : Nat)) = ((fxAt j b x : Nat) : Int) := by unfold fxAt; omega
      rw [e1]
      refine eqD_tup (fxAt j b x) (x := .bl ((bs[fxAt j b x]?).getD false)) ?_
      rw [List.getElem?_map, get]; rfl
    rw [List.map_cons, fors_var]
    generalize hpp : 2 ^ j = pj at *
    simp at e
    have hp' : 0 < pj := hp
    by_cases hx1 : x / pj % 2 = 1
    · have hle := hbase hx1
      have hs : (x : Int) - (pj : Int) = ((x - pj : Nat) : Int) := by omega
      have m1 : ((x / pj : Nat) : Int) % 2 = 1 := by omega
      rw [if_pos hx1] at ixf e
      simp [-Int.natCast_mul, -Int.natCast_ediv, -Int.natCast_emod, -index_tup, fxB, encN, hdiv, m1, hmul, cm, q1, q2, hp', hs, ixf, mAppend, listOf, hz, forNx_nx]
      exact e
    · have m1 : ¬ ((x / pj : Nat) : Int) % 2 = 1 := by omega
      rw [if_neg hx1] at ixf e
      simp [-Int.natCast_mul, -Int.natCast_ediv, -Int.natCast_emod, -index_tup, fxB, encN, hdiv, m1, hmul, cm, q1, q2, hp', ixf, mAppend, listOf, hz, forNx_nx]
      exact e
theorem fixed_run (f684 : G.defs 684 = some d684) {bs : List Bool} {n j b : Nat} (hl : bs.length = 2 ^ n) (hn : n ≤ 19) (hj : j < n) (hb : b < 2) (k : Nat) (S : Sto) : run G (k + 1) 684 [.d (tupB bs), .d (.int (j : Int)), .d (.int (b : Int))] S = .ok (.d (tupB (fx bs j b))) S := by
  rw [run_alone (d := d684) f684 rfl rfl rfl]
  have p20 : 2 ^ n ≤ 2 ^ 19 := Nat.pow_le_pow_right (by decide) hn
  obtain ⟨y4, e1⟩ := step_loop (G := G) k (some (.d (tupB bs))) (some (.d (.int (j : Int)))) (some (.d (.int (b : Int)))) none none none [] (List.range j) 1 none
  rw [List.length_range, Nat.one_mul] at e1
  obtain ⟨y6, y7, e2⟩ := fx_loop (G := G) k (some (.d (.int (j : Int)))) y4 hl (by omega) hj hb (List.range (2 ^ n)) [] none none (fun x hx => List.mem_range.mp hx) (by simp; omega)
  have wk1 := wk_rngN (S := ([] : Sto)) (n := j) (by omega)
  have wk2 := wk_rngN (S := ([.lst []] : Sto)) (n := bs.length) (by omega)
  rw [hl] at wk2
  have hfx : ((List.range (2 ^ n)).map fun i => (bs[fxAt j b i]?).getD false) = fx bs j b := by unfold fx; rw [hl]
  rw [List.nil_append, hfx] at e2
  have hp : pures ((fx bs j b).map (Vl.d ∘ .bl)) = some ((fx bs j b).map .bl) := pures_mapf _ _
  have hc : ∀ xs : List Nat, (xs.map fun j : Nat => Vl.d (.int (j : Int))) = xs.map (Vl.d ∘ encN) := fun _ => rfl
  rw [hc] at wk1 wk2
  have tl : bLen (.d (tupB bs)) ([.lst []] : Sto) = .ok (.d (.int ((2 ^ n : Nat) : Int))) [.lst []] := by
    unfold tupB; rw [bLen_tup, List.length_map, hl]
  have hfr : frz [5] [some (.d (tupB bs)), some (.d (.int (j : Int))), some (.d (.int (b : Int))), some (.d (.int ((2 ^ j : Nat) : Int))), y4, some (.p 0), y6, y7] [.lst ((fx bs j b).map (Vl.d ∘ .bl))] = some ([some (.d (tupB bs)), some (.d (.int (j : Int))), some (.d (.int (b : Int))), some (.d (.int ((2 ^ j : Nat) : Int))), y4, some (.d (.lst ((fx bs j b).map .bl))), y6, y7], [.dead]) := by
    simp [frz, freeze, hp]
  have c1 : ((1 : Nat) : Int) = 1 := rfl
  rw [c1] at e1
  simp only [List.map_nil] at e2
  simp [-Int.natCast_pow, -bLen_tup, d684, b684, wk1, e1, tl, wk2, e2, hfr, bTuple]
  rfl
theorem eqv_tupB : ∀ bs cs : List Bool, eqv (tupB bs) (tupB cs) = decide (bs = cs)
  | [], [] => rfl
  | [], _ :: _ => rfl
  | _ :: _, [] => rfl
  | b :: bs, c :: cs => by
    have ih := eqv_tupB bs cs
    unfold tupB at ih ⊢
    rw [List.map_cons, List.map_cons, eqv_tup_cons, ih, eqv_bl]
    by_cases h : b = c <;> by_cases k : bs = cs <;> simp [h, k]
theorem data_tupB (bs : List Bool) : isData 64 (tupB bs) = true := by unfold tupB; rw [isData_tup]; exact datas_bls _ _
theorem ne_tupB (k : Bool) (bs cs : List Bool) (S : Sto) : cEqv k (.d (tupB bs)) (.d (tupB cs)) S = .ok (.d (.bl (if k then !decide (bs = cs) else decide (bs = cs)))) S := by
  rw [eqv_dd, eqv_tupB]
  have : eqOk (tupB bs) (tupB cs) = true := by rw [eqOk_a, data_tupB, data_tupB]; simp
  rw [this]; rfl
/-- the first entry it depends on -/
def topI (bs : List Bool) (n : Nat) : Option Nat := (List.range n).find? fun j => !decide (fx bs j 0 = fx bs j 1)
def optN : Option Nat → D
  | some j => .int (j : Int)
  | none => .non
abbrev tpB (G : Gm) (k : Nat) : Env → Sto → RS := exs G (run G k) [.ifs (.cmp (.ne) (.call 684 [.var 0, .var 2, .con (.int 0)]) (.call 684 [.var 0, .var 2, .con (.int 1)])) [.ret (.var 2)] []]
theorem top_loop (f684 : G.defs 684 = some d684) {bs : List Bool} {n : Nat} (hl : bs.length = 2 ^ n) (hn : n ≤ 19) (k : Nat) (a1 : Option Vl) (S : Sto) : ∀ (xs : List Nat) (x2 : Option Vl), (∀ x ∈ xs, x < n) → ∃ y2, fors (tpB G (k + 1)) (.var 2) (xs.map (Vl.d ∘ encN)) [some (.d (tupB bs)), a1, x2] S = match xs.find? (fun j => !decide (fx bs j 0 = fx bs j 1)) with
      | some j => .rt (.d (.int (j : Int))) S
      | none => .nx [some (.d (tupB bs)), a1, y2] S
  | [], x2, _ => ⟨x2, rfl⟩
  | x :: xs, x2, hx => by
    obtain ⟨y2, e⟩ := top_loop f684 hl hn k a1 S xs (some (.d (.int (x : Int)))) fun y hy => hx y (List.mem_cons_of_mem _ hy)
    have r0 := fixed_run f684 hl hn (hx x (by simp)) (b := 0) (by decide) k S
    have r1 := fixed_run f684 hl hn (hx x (by simp)) (b := 1) (by decide) k S
    have ne := ne_tupB true (fx bs x 0) (fx bs x 1) S
    refine ⟨y2, ?_⟩
    rw [List.map_cons, fors_var, List.find?_cons]
    have c0 : ((0 : Nat) : Int) = 0 := rfl
    have c1 : ((1 : Nat) : Int) = 1 := rfl
    rw [c0] at r0
    rw [c1] at r1
    by_cases h : fx bs x 0 = fx bs x 1
    · rw [h] at ne r0
      simp [-eqv_dd, tpB, encN, r0, r1, ne, h, forNx_nx]
      exact e
    · simp [-eqv_dd, tpB, encN, r0, r1, ne, h, forNx_rt]
theorem top_run (f684 : G.defs 684 = some d684) (f685 : G.defs 685 = some d685) {bs : List Bool} {n : Nat} (hl : bs.length = 2 ^ n) (hn : n ≤ 19) (k : Nat) (S : Sto) : run G (k + 2) 685 [.d (tupB bs), .d (.int (n : Int))] S = .ok (.d (optN (topI bs n))) S := by
  rw [run_alone (d := d685) f685 rfl rfl rfl]
  obtain ⟨y2, e⟩ := top_loop f684 hl hn k (some (.d (.int (n : Int)))) [] (List.range n) none fun x hx => List.mem_range.mp hx
  have wk := wk_rngN (S := ([] : Sto)) (n := n) (by omega)
  have hc : ∀ xs : List Nat, (xs.map fun j : Nat => Vl.d (.int (j : Int))) = xs.map (Vl.d ∘ encN) := fun _ => rfl
  rw [hc] at wk
  unfold topI
  cases h : (List.range n).find? (fun j => !decide (fx bs j 0 = fx bs j 1)) with
  | none =>
    rw [h] at e
    simp [d685, b685, wk, e, optN]
  | some j =>
    rw [h] at e
    simp [d685, b685, wk, e, optN]
theorem truth_run (tg : TG G) (f683 : G.defs 683 = some d683) {t : Tr} (hi : t.In E) (hE : E.length ≤ 10) (k : Nat) (hk : t.h + 2 ≤ k) (hk2 : 2 ≤ k) (S : Sto) : run G (k + 1) 683 [.d t.enc, .d (.lst (E.map .int))] S = .ok (.d (tupB (Tv E t.ev))) S := by
  rw [run_alone (d := d683) f683 rfl rfl rfl]
  obtain ⟨k', rfl⟩ : ∃ j, k = j + 1 := ⟨k - 1, by omega⟩
  have hp5 : 2 ^ E.length ≤ 2 ^ 10 := Nat.pow_le_pow_right (by decide) hE
  have hsl := subs_len E
  have sr := subs_run tg E (by omega) k' []
  have ht := turns_en (f := lcB G (run G (k' + 1)) none (.call 681 [.var 0, .var 2])) (i := 2) (ρ := [some (.d t.enc), some (.d (.lst (E.map .int))), none]) (S := []) encP (fun p => .bl (t.ev fun e => decide (e ∈ p))) (xs := subs E) [] (fun p _ => by
    have h3 := true_run tg p t hi [] (k' + 1) (by omega)
    simp [encP, h3]) (by rw [hsl]; simp; omega)
  have hl : (subs E).length ≤ 16777216 := by omega
  rw [List.nil_append] at ht
  have hp : pures ((subs E).map fun p => Vl.d (.bl (t.ev fun e => decide (e ∈ p)))) = some ((subs E).map fun p => .bl (t.ev fun e => decide (e ∈ p))) := pures_mapf _ _
  simp [d683, b683, sr, ht, hl, bTuple]
  unfold tupB Tv
  rw [List.map_map]
  rfl
end
end Z
end

section
set_option maxHeartbeats 2000000
set_option maxRecDepth 10000
/-! B16: truths of numbers. -/
namespace Z
open BD
open Classical in
noncomputable def treeN (ns : List Nd) (c : Nat) : Bt := if h : ∃ t, Den ns c t then choose h else .leaf false
theorem treeN_den {ns : List Nd} {c : Nat} {t : Bt} (d : Den ns c t) : treeN ns c = t := by
  have h : ∃ t, Den ns c t := ⟨t, d⟩
  unfold treeN
  rw [dif_pos h]
  exact (Classical.choose_spec h).fn d
noncomputable def tvN (E : List Int) (ns : List Nd) (c : Nat) : List Bool := Tv E (treeN ns c).val
theorem fin_val {E : List Int} {t : Bt} (w : Wt E t) : Fin1 E t.val := fun {_ _} k => w.val_congr k
section
variable {E : List Int} {st : Bd}
theorem Tv_tree (g : Good E st) {t u : Bt} (a : Wt E t) (b : Wt E u) : Tv E t.val = Tv E u.val ↔ t = u := by
  rw [Tv_eq (fin_val a) (fin_val b)]
  exact ⟨fun h => Wt.canon g.asc a b h, fun h ρ => by rw [h]⟩
theorem tv_inj (g : Good E st) {c d : Nat} {t u : Bt} (dc : Den st.ns c t) (dd : Den st.ns d u) (wt : Wt E t) (wu : Wt E u) : Tv E t.val = Tv E u.val ↔ c = d := by
  rw [Tv_tree g wt wu]
  constructor
  · intro e; subst e; exact dc.inj g.nd dd
  · intro e; subst e; exact dc.fn dd
/-- it is the same fixed at an entry just if it does not ask about it -/
theorem fx_occ {t : Bt} (ha : Asc E) (w : Wt E t) {j : Nat} (hj : j < E.length) : fx (Tv E t.val) j 0 = fx (Tv E t.val) j 1 ↔ ¬ occ t E[j] := by
  have nE : E.Nodup := ha.imp fun h => Int.ne_of_lt h
  rw [fx_Tv nE _ hj (by decide), fx_Tv nE _ hj (by decide)]
  have f0 : ∀ b, Fin1 E (fU t.val E[j] b) := fun b {ρ σ} k => fin_val w fun x hx => by
    unfold upB; split
    · rfl
    · exact k x hx
  rw [Tv_eq (f0 _) (f0 _), occ_iff ha w]
  constructor
  · intro h ⟨ρ, k⟩
    exact k (h ρ).symm
  · intro h ρ
    apply Classical.byContradiction
    intro k
    exact h ⟨ρ, fun z => k z.symm⟩
theorem top_leaf (ha : Asc E) (b : Bool) : topI (Tv E (Bt.leaf b).val) E.length = none := by
  unfold topI
  rw [List.find?_eq_none]
  intro j hj
  have hj := List.mem_range.mp hj
  have := (fx_occ ha (Wt.leaf (b := b)) hj).mpr (fun z => z)
  simp [this]
theorem top_node (ha : Asc E) {x : Int} {l r : Bt} (w : Wt E (.node x l r)) : ∃ j, ∃ h : j < E.length, E[j] = x ∧ topI (Tv E (Bt.node x l r).val) E.length = some j := by
  obtain ⟨P, E', hE, wl, wr, hne⟩ := w.split rfl
  have hj : P.length < E.length := by rw [hE]; simp
  have hx : E[P.length] = x := by simp [hE]
  refine ⟨P.length, hj, hx, ?_⟩
  unfold topI
  rw [List.find?_range_eq_some]
  refine ⟨?_, List.mem_range.mpr hj, fun i hi => ?_⟩
  · have : ¬ fx (Tv E (Bt.node x l r).val) P.length 0 = fx (Tv E (Bt.node x l r).val) P.length 1 := fun z => (fx_occ ha w hj).mp z (by rw [hx]; exact .inl rfl)
    simp [this]
  · have hi2 : i < E.length := by omega
    have hiP : E[i] = P[i] := by simp [hE, List.getElem_append_left hi]
    have := (fx_occ ha w hi2).mpr (fun z => by
      have wE' : Wt (x :: E') (.node x l r) := .node wl wr hne
      have hm := wE'.occ_mem z
      rw [hiP] at hm
      rw [hE] at ha
      have := (List.pairwise_append.mp ha).2.2 P[i] (List.getElem_mem hi) P[i] hm
      omega)
    simp [this]
/-- the truths of the parts -/
theorem fx_part (ha : Asc E) {x : Int} {l r : Bt} (w : Wt E (.node x l r)) {j : Nat} (h : j < E.length) (hx : E[j] = x) : fx (Tv E (Bt.node x l r).val) j 0 = Tv E l.val ∧ fx (Tv E (Bt.node x l r).val) j 1 = Tv E r.val := by
  have nE : E.Nodup := ha.imp fun h => Int.ne_of_lt h
  obtain ⟨P, E', hE, wl, wr, hne⟩ := w.split rfl
  have hxE : x ∉ E' := fun z => by
    rw [hE] at ha
    exact Int.lt_irrefl x ((List.pairwise_cons.mp (List.pairwise_append.mp ha).2.1).1 x z)
  rw [fx_Tv nE _ h (by decide), fx_Tv nE _ h (by decide), hx]
  constructor
  · congr 1
    funext ρ
    show (Bt.node x l r).val (upB ρ x false) = _
    rw [val_node, wl.val_up hxE, wr.val_up hxE]
    simp [upB]
  · congr 1
    funext ρ
    show (Bt.node x l r).val (upB ρ x true) = _
    rw [val_node, wl.val_up hxE, wr.val_up hxE]
    simp [upB]
end
end Z
end

section
set_option maxHeartbeats 2000000
set_option maxRecDepth 10000
/-! B17: diagrams counted by truths. -/
namespace Z
open BD
theorem mem_cell {k : Bool} {S : Sto} {n : Nat} {ds xs : List D} (h : S[n]? = some (.lst (ds.map .d))) (hx : isData 64 (.tup xs) = true) (hs : isData 64 (.lst ds) = true) : cMem k (.d (.tup xs)) (.p n) S = .ok (.d (.bl (if k then !(ds.any fun e => eqv e (.tup xs)) else ds.any fun e => eqv e (.tup xs)))) S := by
  have hp : pures (ds.map .d) = some ds := pures_map ds
  simp [cMem, inAny, inDct, contains, seqOf, listOf, memFlat, h, hx, hs, hp]
theorem any_tupB (l : List (List Bool)) (b : List Bool) : ((l.map tupB).any fun e => eqv e (tupB b)) = decide (b ∈ l) := by
  induction l with
  | nil => rfl
  | cons x l ih =>
    rw [List.map_cons, List.any_cons, ih, eqv_tupB]
    by_cases h : x = b
    · simp [h]
    · have : ¬ b = x := fun z => h z.symm
      simp [h, this]
theorem data_tupBs (l : List (List Bool)) : isData 64 (.lst (l.map tupB)) = true := by
  rw [isData_lst]
  induction l with
  | nil => simp
  | cons x l ih =>
    rw [List.map_cons, isDatas_cons, ih]
    unfold tupB
    rw [isData_tup, datas_bls]; rfl
/-- what is walked is the least that holds all parts -/
theorem walk_least {ns : List Nd} {K : List Nat} (hK : ∀ c ∈ K, ∀ p ∈ kids ns c, p ∈ K) : ∀ (t : Bt) (c : Nat) (f : List Nat), Den ns c t → (c < 2 ∨ c ∈ K) → (∀ x ∈ f, x ∈ K) → ∀ x ∈ walkT ns t c f, x ∈ K
  | .leaf b, c, f, _, _, hf => hf
  | .node e l r, c, f, d, hc, hf => by
    obtain ⟨i, a, b, rfl, h1, h2, h3⟩ := d.node_inv
    have hcK : i + 2 ∈ K := hc.resolve_left (by omega)
    rw [walk_node h1]
    split
    · exact hf
    · have sub : ∀ p, (p = a ∨ p = b) → p < 2 ∨ p ∈ K := fun p hp => by
        by_cases z : p < 2
        · exact .inl z
        · exact .inr (hK _ hcK p ((mem_kids h1).mpr ⟨hp, by omega⟩))
      intro x hx
      rcases List.mem_append.mp hx with hx | hx
      · exact walk_least hK r b _ h3 (sub b (.inr rfl)) (walk_least hK l a f h2 (sub a (.inl rfl)) hf) x hx
      · rw [List.mem_singleton.mp hx]; exact hcK
theorem walkA_least {ns : List Nd} {K : List Nat} (hK : ∀ c ∈ K, ∀ p ∈ kids ns c, p ∈ K) : ∀ (cts : List (Bt × Nat)) (f : List Nat), (∀ q ∈ cts, Den ns q.2 q.1 ∧ (q.2 < 2 ∨ q.2 ∈ K)) → (∀ x ∈ f, x ∈ K) → ∀ x ∈ walkA ns cts f, x ∈ K
  | [], f, _, hf => hf
  | q :: cts, f, h, hf => walkA_least hK cts _ (fun p hp => h p (List.mem_cons_of_mem _ hp)) (walk_least hK q.1 q.2 f (h q (by simp)).1 (h q (by simp)).2 hf)
theorem nodup_len : ∀ {a b : List Nat}, a.Nodup → (∀ x ∈ a, x ∈ b) → a.length ≤ b.length
  | [], _, _, _ => Nat.zero_le _
  | x :: a, b, hn, h => by
    have hn' := List.nodup_cons.mp hn
    have hx := h x (by simp)
    have := nodup_len (a := a) (b := b.erase x) hn'.2 fun y hy => by
      have hne : y ≠ x := fun z => hn'.1 (by rw [← z]; exact hy)
      exact (List.mem_erase_of_ne hne).mpr (h y (List.mem_cons_of_mem _ hy))
    rw [List.length_erase_of_mem hx] at this
    have hpos : 0 < b.length := List.length_pos_of_mem hx
    rw [List.length_cons]
    omega
theorem walk_keep {ns : List Nd} (t : Bt) (c : Nat) (f : List Nat) (d : Den ns c t) : ∀ x ∈ f, x ∈ walkT ns t c f := fun x hx => by
  obtain ⟨m, e, _⟩ := walk_add t c f d
  rw [e]; exact List.mem_append_left _ hx
theorem walkA_mem {ns : List Nd} : ∀ (cts : List (Bt × Nat)) (f : List Nat), (∀ q ∈ cts, Den ns q.2 q.1) → (∀ x ∈ f, x ∈ walkA ns cts f) ∧ ∀ q ∈ cts, 2 ≤ q.2 → q.2 ∈ walkA ns cts f
  | [], f, _ => ⟨fun x h => h, fun q h => by cases h⟩
  | p :: cts, f, h => by
    obtain ⟨h1, h2⟩ := walkA_mem cts (walkT ns p.1 p.2 f) fun q hq => h q (List.mem_cons_of_mem _ hq)
    refine ⟨fun x hx => h1 x (walk_keep _ _ _ (h p (by simp)) x hx), fun q hq h2q => ?_⟩
    rcases List.mem_cons.mp hq with e | e
    · subst e; exact h1 _ (walk_mem (h q (by simp)) h2q)
    · exact h2 q e h2q
section
variable {G : Gm} {S : Sto} {E : List Int} {st : Bd}
noncomputable def tb (E : List Int) (ns : List Nd) (c : Nat) : D := tupB (tvN E ns c)
abbrev dgB (G : Gm) (k : Nat) : Env → Sto → RS := exs G (run G k) [.asg (.var 4) (.bm (.pop) (.var 3) []), .asg (.var 5) (.call 685 [.var 4, .var 1]), .ifs (.and (.cmp (.isn) (.var 5) (.con (.non))) (.cmp (.nmem) (.var 4) (.var 2))) [.expr (.bm (.append) (.var 2) [.var 4]), .expr (.bm (.append) (.var 3) [.call 684 [.var 4, .var 5, .con (.int 0)]]), .expr (.bm (.append) (.var 3) [.call 684 [.var 4, .var 5, .con (.int 1)]])] []]
abbrev dgT (G : Gm) (k : Nat) : Env → Sto → Res Bool := tst G (run G k) (.var 3)
noncomputable def dgS (E : List Int) (ns : List Nd) (fs ws : List Nat) : Sto := [.lst (fs.map (Vl.d ∘ tb E ns)), .lst (ws.map (Vl.d ∘ tb E ns))]
theorem dg_loop (f684 : G.defs 684 = some d684) (f685 : G.defs 685 = some d685) (g : Good E st) (hE : E.length ≤ 10) (k : Nat) (a0 : Option Vl) {F : List Nat} (hF : F.Nodup) (hFl : F.length ≤ 100000) (hFc : ∀ c ∈ F, ∀ p ∈ kids st.ns c, p ∈ F) :
    ∀ (fu : Nat) (fs ws : List Nat) (x4 x5 : Option Vl), (∀ c ∈ fs, c ∈ F ∧ 2 ≤ c ∧ c < st.ns.length + 2) → fs.Nodup → (∀ c ∈ fs, ∀ p ∈ kids st.ns c, p ∈ fs ∨ p ∈ ws) → (∀ c ∈ ws, c < st.ns.length + 2 ∧ (c < 2 ∨ c ∈ F)) → ws.length ≤ 1000000 → 3 * (F.length - fs.length) + ws.length < fu → ws.length + 3 * (F.length - fs.length) ≤ 1000000 →
      ∃ fs' y4 y5, whl (dgT G (k + 2)) (dgB G (k + 2)) fu [a0, some (.d (.int (E.length : Int))), some (.p 0), some (.p 1), x4, x5] (dgS E st.ns fs ws) = .nx [a0, some (.d (.int (E.length : Int))), some (.p 0), some (.p 1), y4, y5] (dgS E st.ns fs' []) ∧ (∀ c ∈ fs', c ∈ F) ∧ fs'.Nodup ∧ (∀ c ∈ fs', ∀ p ∈ kids st.ns c, p ∈ fs') ∧ (∀ c ∈ fs, c ∈ fs') ∧ (∀ c ∈ ws, 2 ≤ c → c ∈ fs') := by
  intro fu
  induction fu with
  | zero => intro fs ws x4 x5 _ _ _ _ _ h; omega
  | succ fu ih =>
    intro fs ws x4 x5 h1 h2 h3 h4 h5 h6 h7
    rw [whl_s]
    have split_ws : ws = [] ∨ ∃ ws' c, ws = ws' ++ [c] := by
      rcases List.eq_nil_or_concat ws with h | ⟨l, b, h⟩
      · exact .inl h
      · exact .inr ⟨l, b, by rw [h, List.concat_eq_append]⟩
    rcases split_ws with rfl | ⟨ws, c, rfl⟩
    · refine ⟨fs, x4, x5, ?_, fun c hc => (h1 c hc).1, h2, fun c hc p hp => ?_, fun c hc => hc, fun c hc => by cases hc⟩
      · have ht : tru (.p 1) (dgS E st.ns fs []) = .ok false (dgS E st.ns fs []) := by simp [tru, truthy, dgS]
        simp [ht, kWh_f]
      · rcases h3 c hc p hp with h | h
        · exact h
        · cases h
    · have ht : tru (.p 1) (dgS E st.ns fs (ws ++ [c])) = .ok true (dgS E st.ns fs (ws ++ [c])) := by simp [tru, truthy, dgS]
      obtain ⟨hc, hcF⟩ := h4 c (by simp)
      obtain ⟨t, dt, wt⟩ := g.den c hc
      have etr : tb E st.ns c = tupB (Tv E t.val) := by unfold tb tvN; rw [treeN_den dt]
      have hpop : mPop (.p 1) (dgS E st.ns fs (ws ++ [c])) = .ok (.d (tupB (Tv E t.val))) (dgS E st.ns fs ws) := by
        simp [mPop, dgS, etr]
      have hlist : ∀ ws, (listOf (.p 1) (dgS E st.ns fs ws)).isSome = true := fun ws => by simp [listOf, dgS]
      have hlv : (Tv E t.val).length = 2 ^ E.length := by simp [Tv, subs_len]
      have tr := top_run f684 f685 hlv (by omega) k (dgS E st.ns fs ws)
      simp only [List.length_append, List.length_singleton] at h5 h6 h7
      cases t with
      | leaf b =>
        rw [top_leaf g.asc] at tr
        obtain ⟨fs', y4, y5, e, r1, r2, r3, r4, r5⟩ := ih fs ws (some (.d (tupB (Tv E (Bt.leaf b).val)))) (some (.d .non)) h1 h2 (fun c' hc' p hp => by
          rcases h3 c' hc' p hp with h | h
          · exact .inl h
          · rcases List.mem_append.mp h with h | h
            · exact .inr h
            · rw [List.mem_singleton.mp h] at hp
              have c2 : c < 2 := by rw [dt.leaf_inv]; split <;> omega
              have := (h1 c' hc').2
              exfalso
              obtain ⟨t', dt', _⟩ := g.den c' this.2
              cases t' with
              | leaf b => have := dt'.leaf_inv; revert this; split <;> omega
              | node e l r =>
                obtain ⟨i, a, b, rfl, k1, _, _⟩ := dt'.node_inv
                have := ((mem_kids k1).mp hp).2
                omega) (fun c' hc' => h4 c' (List.mem_append_left _ hc')) (by omega) (by omega) (by omega)
        refine ⟨fs', y4, y5, ?_, r1, r2, r3, r4, fun c' hc' h2c => ?_⟩
        · simp [ht, kWh_t, hlist, hpop, tr, optN, whNx_nx]
          exact e
        · rcases List.mem_append.mp hc' with h | h
          · exact r5 c' h h2c
          · rw [List.mem_singleton.mp h] at h2c
            have c2 : c < 2 := by rw [dt.leaf_inv]; split <;> omega
            omega
      | node x l r =>
        obtain ⟨j, hj, hx, tj⟩ := top_node g.asc wt
        rw [tj] at tr
        have dt0 := dt
        obtain ⟨i, a, b, rfl, k1, da, db⟩ := dt.node_inv
        have hiF : i + 2 ∈ F := hcF.resolve_left (by omega)
        have hmem : (fs.map (tb E st.ns)).any (fun e => eqv e (tupB (Tv E (Bt.node x l r).val))) = decide (i + 2 ∈ fs) := by
          have e1 : fs.map (tb E st.ns) = (fs.map (tvN E st.ns)).map tupB := by rw [List.map_map]; rfl
          rw [e1, any_tupB]
          apply decide_eq_decide.mpr
          rw [List.mem_map]
          constructor
          · rintro ⟨c', hc', e⟩
            obtain ⟨t', dt', wt'⟩ := g.den c' (h1 c' hc').2.2
            unfold tvN at e
            rw [treeN_den dt'] at e
            rw [← (tv_inj g dt' dt0 wt' wt).mp e]; exact hc'
          · intro h
            refine ⟨i + 2, h, ?_⟩
            unfold tvN
            rw [treeN_den dt0]
        have hd1 : isData 64 (.lst (fs.map (tb E st.ns))) = true := by
          have e1 : fs.map (tb E st.ns) = (fs.map (tvN E st.ns)).map tupB := by rw [List.map_map]; rfl
          rw [e1]; exact data_tupBs _
        have mc := mem_cell (k := true) (S := dgS E st.ns fs ws) (n := 0) (ds := fs.map (tb E st.ns)) (xs := (Tv E (Bt.node x l r).val).map .bl) (by simp [dgS]) (data_tupB _) hd1
        change cMem true (.d (tupB (Tv E (Bt.node x l r).val))) _ _ = .ok (.d (.bl (if true then !((fs.map (tb E st.ns)).any fun e => eqv e (tupB (Tv E (Bt.node x l r).val))) else _))) _ at mc
        rw [hmem] at mc
        by_cases hin : i + 2 ∈ fs
        · obtain ⟨fs', y4, y5, e, r1, r2, r3, r4, r5⟩ := ih fs ws (some (.d (tupB (Tv E (Bt.node x l r).val)))) (some (.d (.int (j : Int)))) h1 h2 (fun c' hc' p hp => by
            rcases h3 c' hc' p hp with h | h
            · exact .inl h
            · rcases List.mem_append.mp h with h | h
              · exact .inr h
              · rw [List.mem_singleton.mp h]; exact .inl hin) (fun c' hc' => h4 c' (List.mem_append_left _ hc')) (by omega) (by omega) (by omega)
          refine ⟨fs', y4, y5, ?_, r1, r2, r3, r4, fun c' hc' h2c => ?_⟩
          · simp [hin] at mc
            simp [ht, kWh_t, hlist, hpop, tr, optN, whNx_nx, mc]
            exact e
          · rcases List.mem_append.mp hc' with h | h
            · exact r5 c' h h2c
            · rw [List.mem_singleton.mp h]; exact r4 _ hin
        · obtain ⟨p0, p1⟩ := fx_part g.asc wt hj hx
          have hfs : fs.length + 1 ≤ F.length := by
            have : (fs ++ [i + 2]).length ≤ F.length := nodup_len (by
              rw [List.nodup_append]
              exact ⟨h2, by simp, fun y hy z hz e => hin (by rw [List.mem_singleton.mp hz] at e; rw [← e]; exact hy)⟩) fun y hy => by
              rcases List.mem_append.mp hy with h | h
              · exact (h1 y h).1
              · rw [List.mem_singleton.mp h]; exact hiF
            simpa using this
          have ka : ∀ p, (p = a ∨ p = b) → p < 2 ∨ p ∈ F := fun p hp => by
            by_cases z : p < 2
            · exact .inl z
            · exact .inr (hFc _ hiF p ((mem_kids k1).mpr ⟨hp, by omega⟩))
          obtain ⟨fs', y4, y5, e, r1, r2, r3, r4, r5⟩ := ih (fs ++ [i + 2]) (ws ++ [a, b]) (some (.d (tupB (Tv E (Bt.node x l r).val)))) (some (.d (.int (j : Int)))) (fun c' hc' => by
            rcases List.mem_append.mp hc' with h | h
            · exact h1 c' h
            · rw [List.mem_singleton.mp h]; exact ⟨hiF, by omega, hc⟩) (by
            rw [List.nodup_append]
            exact ⟨h2, by simp, fun y hy z hz e => hin (by rw [List.mem_singleton.mp hz] at e; rw [← e]; exact hy)⟩) (fun c' hc' p hp => by
            rcases List.mem_append.mp hc' with h | h
            · rcases h3 c' h p hp with h | h
              · exact .inl (List.mem_append_left _ h)
              · rcases List.mem_append.mp h with h | h
                · exact .inr (List.mem_append_left _ h)
                · exact .inl (List.mem_append_right _ h)
            · rw [List.mem_singleton.mp h] at hp
              have := (mem_kids k1).mp hp
              refine .inr (List.mem_append_right _ ?_)
              simpa using this.1) (fun c' hc' => by
            rcases List.mem_append.mp hc' with h | h
            · exact h4 c' (List.mem_append_left _ h)
            · have hab : c' = a ∨ c' = b := by simpa using h
              refine ⟨?_, ka c' hab⟩
              rcases hab with rfl | rfl
              · exact da.lt
              · exact db.lt) (by simp; omega) (by simp; omega) (by simp; omega)
          refine ⟨fs', y4, y5, ?_, r1, r2, r3, fun c' hc' => r4 c' (List.mem_append_left _ hc'), fun c' hc' h2c => ?_⟩
          · have f0 := fixed_run f684 hlv (by omega) hj (b := 0) (by decide) (k + 1)
            have f1 := fixed_run f684 hlv (by omega) hj (b := 1) (by decide) (k + 1)
            rw [p0] at f0
            rw [p1] at f1
            simp at f0 f1
            have ea : tb E st.ns a = tupB (Tv E l.val) := by unfold tb tvN; rw [treeN_den da]
            have eb : tb E st.ns b = tupB (Tv E r.val) := by unfold tb tvN; rw [treeN_den db]
            have z1 : fs.length < 16777216 := by omega
            have z2 : ws.length < 16777216 := by omega
            have z3 : ws.length + 1 < 16777216 := by omega
            have ap1 : mAppend (.p 0) (.d (tupB (Tv E (Bt.node x l r).val))) (dgS E st.ns fs ws) = .ok (.d .non) (dgS E st.ns (fs ++ [i + 2]) ws) := by simp [mAppend, dgS, z1, etr]
            have ap2 : mAppend (.p 1) (.d (tupB (Tv E l.val))) (dgS E st.ns (fs ++ [i + 2]) ws) = .ok (.d .non) (dgS E st.ns (fs ++ [i + 2]) (ws ++ [a])) := by simp [mAppend, dgS, z2, ea]
            have ap3 : mAppend (.p 1) (.d (tupB (Tv E r.val))) (dgS E st.ns (fs ++ [i + 2]) (ws ++ [a])) = .ok (.d .non) (dgS E st.ns (fs ++ [i + 2]) (ws ++ [a, b])) := by simp [mAppend, dgS, z3, eb]
            have hlist2 : ∀ fs ws, (listOf (.p 1) (dgS E st.ns fs ws)).isSome = true := fun fs ws => by simp [listOf, dgS]
            have hlist0 : ∀ fs ws, (listOf (.p 0) (dgS E st.ns fs ws)).isSome = true := fun fs ws => by simp [listOf, dgS]
            simp [hin] at mc
            simp [ht, kWh_t, hlist2, hlist0, hpop, tr, optN, whNx_nx, mc, f0, f1, ap1, ap2, ap3]
            exact e
          · rcases List.mem_append.mp hc' with h | h
            · exact r5 c' (List.mem_append_left _ h) h2c
            · rw [List.mem_singleton.mp h]; exact r4 _ (by simp)
theorem diag_run (f684 : G.defs 684 = some d684) (f685 : G.defs 685 = some d685) (f686 : G.defs 686 = some d686) (hfu : 2000000 ≤ G.fuel) (g : Good E st) (hE : E.length ≤ 10) (k : Nat) {cts : List (Bt × Nat)} (hd : ∀ q ∈ cts, Den st.ns q.2 q.1) (hcl : Closed st.ns (walkA st.ns cts [])) (hnd : (walkA st.ns cts []).Nodup) (hl : (walkA st.ns cts []).length ≤ 100000) (hcs : cts.length ≤ 1000) (S : Sto) :
    ∃ fs : List Nat, run G (k + 3) 686 [.d (.lst (cts.map fun q => tb E st.ns q.2)), .d (.int (E.length : Int))] S = .ok (.d (.lst (fs.map (tb E st.ns)))) S ∧ fs.length = (walkA st.ns cts []).length := by
  obtain ⟨wm1, wm2⟩ := walkA_mem cts [] hd
  obtain ⟨fs', y4, y5, e, r1, r2, r3, r4, r5⟩ := dg_loop f684 f685 g hE k (some (.d (.lst (cts.map fun q => tb E st.ns q.2)))) hnd hl (fun c hc => (hcl c hc).2) G.fuel [] (cts.map (·.2)) none none (by simp) (by simp) (by simp) (fun c hc => by
    obtain ⟨q, hq, rfl⟩ := List.mem_map.mp hc
    refine ⟨(hd q hq).lt, ?_⟩
    by_cases z : q.2 < 2
    · exact .inl z
    · exact .inr (wm2 q hq (by omega))) (by simp; omega) (by simp; omega) (by simp; omega)
  refine ⟨fs', ?_, ?_⟩
  · have hq : cts.length ≤ 16777216 := by omega
    have hmm : (cts.map (·.2)).map (Vl.d ∘ tb E st.ns) = cts.map (Vl.d ∘ fun q => tb E st.ns q.2) := by rw [List.map_map]; rfl
    have hz : pures (fs'.map (Vl.d ∘ tb E st.ns)) = some (fs'.map (tb E st.ns)) := pures_mapf _ _
    unfold dgS at e
    rw [hmm] at e
    simp only [List.map_nil] at e
    rw [run_alone (d := d686) f686 rfl rfl rfl]
    simp [d686, b686, hq, e, goOut, freeze, hz]
  · apply Nat.le_antisymm
    · exact nodup_len r2 r1
    · exact nodup_len hnd (walkA_least r3 cts [] (fun q hq => ⟨hd q hq, by
        by_cases z : q.2 < 2
        · exact .inl z
        · exact .inr (r5 q.2 (List.mem_map.mpr ⟨q, hq, rfl⟩) (by omega))⟩) (by simp))
end
end Z
end

set_option maxRecDepth 100000
set_option maxHeartbeats 0
namespace Law
open PySem L2 Z
def top (i : Nat) : Stmt := PySem.Challenge.pw_lineworks_k59_tables_tell_conditions.main.body.getD i (.Pass ⟨0, 0, 0, 0⟩)
def mtd (i j : Nat) : Stmt := match top i with
  | .ClassDef _ _ _ b _ _ _ _ _ _ _ => b.getD j (.Pass ⟨0, 0, 0, 0⟩)
  | _ => .Pass ⟨0, 0, 0, 0⟩
def gd : List (Str × Nat) := [("and_leaf", 155), ("or_leaf", 156), ("differ_leaf", 157), ("_law_draw", 500), ("_law_next", 501), ("_law_same", 507), ("_law_entries", 678), ("_law_tree", 679), ("_law_build", 680), ("_law_true", 681), ("_law_subsets", 682), ("_law_truth", 683), ("_law_fixed", 684), ("_law_top", 685), ("_law_diagrams", 686), ("_law_listed", 0), ("_law_number", 1), ("law", 2)]
def gb : List Str := ["len", "min", "max", "list", "abs", "int", "isinstance", "str", "tuple", "all", "bool", "range"]
def gc : List (Str × Nat) := [("NEVER", 107), ("ALWAYS", 108), ("LEAVES", 109)]
def gf : List (Str × (Nat × List Nat)) := [("_nodes", (3, [1])), ("_numbers", (4, [1])), ("_results", (5, [1]))]
def gm : List (Str × List (Nat × Nat)) := [("make", [(1, 159)]), ("there", [(1, 160)]), ("node", [(1, 161)]), ("_combined", [(1, 162)]), ("_split", [(1, 163)]), ("conjunction", [(1, 164)]), ("disjunction", [(1, 165)]), ("differs", [(1, 166)]), ("negation", [(1, 167)]), ("holds", [(1, 170)]), ("reached", [(1, 171)]), ("_parts", [(1, 172)]), ("size", [(1, 173)]), ("table", [(1, 180)])]
def gk : List (Str × (Nat × Nat)) := [("Diagrams", (1, 158))]
def c155 : Cs := { N := ["first", "second"], sc := defScope (top 4), gd := gd, gc := gc, gb := gb, fl := gf, mt := gm, cls := gk, cells := [], frz := [], retc := false, fcells := ["_nodes", "_numbers", "_results"], tdl := [], rv := [("store", 1)] }
def c156 : Cs := { N := ["first", "second"], sc := defScope (top 5), gd := gd, gc := gc, gb := gb, fl := gf, mt := gm, cls := gk, cells := [], frz := [], retc := false, fcells := ["_nodes", "_numbers", "_results"], tdl := [], rv := [("store", 1)] }
def c157 : Cs := { N := ["first", "second"], sc := defScope (top 6), gd := gd, gc := gc, gb := gb, fl := gf, mt := gm, cls := gk, cells := [], frz := [], retc := false, fcells := ["_nodes", "_numbers", "_results"], tdl := [], rv := [("store", 1)] }
def c158 : Cs := { N := ["self"], sc := defScope (mtd 8 0), gd := gd, gc := gc, gb := gb, fl := gf, mt := gm, cls := gk, cells := [], frz := [], retc := false, fcells := ["_nodes", "_numbers", "_results"], tdl := [30, 31], rv := [("store", 1), ("self", 1)] }
def c159 : Cs := { N := ["self", "entry", "without", "there", "key"], sc := defScope (mtd 8 1), gd := gd, gc := gc, gb := gb, fl := gf, mt := gm, cls := gk, cells := [], frz := [], retc := false, fcells := ["_nodes", "_numbers", "_results"], tdl := [], rv := [("store", 1), ("self", 1)] }
def c160 : Cs := { N := ["self", "entry"], sc := defScope (mtd 8 2), gd := gd, gc := gc, gb := gb, fl := gf, mt := gm, cls := gk, cells := [], frz := [], retc := false, fcells := ["_nodes", "_numbers", "_results"], tdl := [], rv := [("store", 1), ("self", 1)] }
def c161 : Cs := { N := ["self", "condition"], sc := defScope (mtd 8 3), gd := gd, gc := gc, gb := gb, fl := gf, mt := gm, cls := gk, cells := [], frz := [], retc := false, fcells := ["_nodes", "_numbers", "_results"], tdl := [], rv := [("store", 1), ("self", 1)] }
def c162 : Cs := { N := ["self", "form", "first", "second", "action", "plain", "key"], sc := defScope (mtd 8 4), gd := gd, gc := gc, gb := gb, fl := gf, mt := gm, cls := gk, cells := [], frz := [], retc := false, fcells := ["_nodes", "_numbers", "_results"], tdl := [], rv := [("store", 1), ("self", 1)] }
def c163 : Cs := { N := ["self", "form", "first", "second", "one", "two", "without"], sc := defScope (mtd 8 5), gd := gd, gc := gc, gb := gb, fl := gf, mt := gm, cls := gk, cells := [], frz := [], retc := false, fcells := ["_nodes", "_numbers", "_results"], tdl := [], rv := [("store", 1), ("self", 1)] }
def c164 : Cs := { N := ["self", "first", "second"], sc := defScope (mtd 8 6), gd := gd, gc := gc, gb := gb, fl := gf, mt := gm, cls := gk, cells := [], frz := [], retc := false, fcells := ["_nodes", "_numbers", "_results"], tdl := [], rv := [("store", 1), ("self", 1)] }
def c165 : Cs := { N := ["self", "first", "second"], sc := defScope (mtd 8 7), gd := gd, gc := gc, gb := gb, fl := gf, mt := gm, cls := gk, cells := [], frz := [], retc := false, fcells := ["_nodes", "_numbers", "_results"], tdl := [], rv := [("store", 1), ("self", 1)] }
def c166 : Cs := { N := ["self", "first", "second"], sc := defScope (mtd 8 8), gd := gd, gc := gc, gb := gb, fl := gf, mt := gm, cls := gk, cells := [], frz := [], retc := false, fcells := ["_nodes", "_numbers", "_results"], tdl := [], rv := [("store", 1), ("self", 1)] }
def c167 : Cs := { N := ["self", "condition"], sc := defScope (mtd 8 9), gd := gd, gc := gc, gb := gb, fl := gf, mt := gm, cls := gk, cells := [], frz := [], retc := false, fcells := ["_nodes", "_numbers", "_results"], tdl := [], rv := [("store", 1), ("self", 1)] }
def c170 : Cs := { N := ["self", "condition", "present", "entry", "without", "there"], sc := defScope (mtd 8 12), gd := gd, gc := gc, gb := gb, fl := gf, mt := gm, cls := gk, cells := [], frz := [], retc := false, fcells := ["_nodes", "_numbers", "_results"], tdl := [], rv := [("store", 1), ("self", 1)] }
def c171 : Cs := { N := ["self", "conditions", "found", "condition", "pending", "last", "parts", "part"], sc := defScope (mtd 8 13), gd := gd, gc := gc, gb := gb, fl := gf, mt := gm, cls := gk, cells := ["found", "pending"], frz := [], retc := false, fcells := ["_nodes", "_numbers", "_results"], tdl := [], rv := [("store", 1), ("self", 1)] }
def c172 : Cs := { N := ["self", "condition", "part"], sc := defScope (mtd 8 14), gd := gd, gc := gc, gb := gb, fl := gf, mt := gm, cls := gk, cells := [], frz := [], retc := false, fcells := ["_nodes", "_numbers", "_results"], tdl := [], rv := [("store", 1), ("self", 1)] }
def c173 : Cs := { N := ["self", "conditions"], sc := defScope (mtd 8 15), gd := gd, gc := gc, gb := gb, fl := gf, mt := gm, cls := gk, cells := [], frz := [], retc := false, fcells := ["_nodes", "_numbers", "_results"], tdl := [], rv := [("store", 1), ("self", 1)] }
def c180 : Cs := { N := ["self", "condition", "numbers", "nodes", "node", "entry", "without", "there"], sc := defScope (mtd 8 22), gd := gd, gc := gc, gb := gb, fl := gf, mt := gm, cls := gk, cells := ["nodes", "numbers"], frz := [(140, [3])], retc := false, fcells := ["_nodes", "_numbers", "_results"], tdl := [], rv := [("store", 1), ("self", 1)] }
def c500 : Cs := { N := ["script"], sc := defScope (top 10), gd := gd, gc := gc, gb := gb, fl := gf, mt := gm, cls := gk, cells := [], frz := [], retc := true, fcells := ["_nodes", "_numbers", "_results"], tdl := [], rv := [("store", 1)] }
def c501 : Cs := { N := ["draw", "many", "found", "cell"], sc := defScope (top 11), gd := gd, gc := gc, gb := gb, fl := gf, mt := gm, cls := gk, cells := [], frz := [], retc := false, fcells := ["_nodes", "_numbers", "_results"], tdl := [], rv := [("store", 1)] }
def c507 : Cs := { N := ["actual", "due", "k"], sc := defScope (top 12), gd := gd, gc := gc, gb := gb, fl := gf, mt := gm, cls := gk, cells := [], frz := [], retc := false, fcells := ["_nodes", "_numbers", "_results"], tdl := [], rv := [("store", 1)] }
def c678 : Cs := { N := ["draw", "most", "entries", "last", "k"], sc := defScope (top 13), gd := gd, gc := gc, gb := gb, fl := gf, mt := gm, cls := gk, cells := ["entries"], frz := [], retc := false, fcells := ["_nodes", "_numbers", "_results"], tdl := [], rv := [("store", 1)] }
def c679 : Cs := { N := ["draw", "entries", "depth", "form", "first"], sc := defScope (top 14), gd := gd, gc := gc, gb := gb, fl := gf, mt := gm, cls := gk, cells := [], frz := [], retc := false, fcells := ["_nodes", "_numbers", "_results"], tdl := [], rv := [("store", 1)] }
def c680 : Cs := { N := ["store", "tree", "first", "second"], sc := defScope (top 15), gd := gd, gc := gc, gb := gb, fl := gf, mt := gm, cls := gk, cells := [], frz := [], retc := false, fcells := ["_nodes", "_numbers", "_results"], tdl := [], rv := [("store", 1)] }
def c681 : Cs := { N := ["tree", "present", "first", "second"], sc := defScope (top 16), gd := gd, gc := gc, gb := gb, fl := gf, mt := gm, cls := gk, cells := [], frz := [], retc := false, fcells := ["_nodes", "_numbers", "_results"], tdl := [], rv := [("store", 1)] }
def c682 : Cs := { N := ["entries", "found", "entry", "part"], sc := defScope (top 17), gd := gd, gc := gc, gb := gb, fl := gf, mt := gm, cls := gk, cells := [], frz := [], retc := false, fcells := ["_nodes", "_numbers", "_results"], tdl := [], rv := [("store", 1)] }
def c683 : Cs := { N := ["tree", "entries", "part"], sc := defScope (top 18), gd := gd, gc := gc, gb := gb, fl := gf, mt := gm, cls := gk, cells := [], frz := [], retc := false, fcells := ["_nodes", "_numbers", "_results"], tdl := [], rv := [("store", 1)] }
def c684 : Cs := { N := ["truth", "k", "there", "step", "j", "found", "at", "base"], sc := defScope (top 19), gd := gd, gc := gc, gb := gb, fl := gf, mt := gm, cls := gk, cells := ["found"], frz := [(229, [5])], retc := false, fcells := ["_nodes", "_numbers", "_results"], tdl := [], rv := [("store", 1)] }
def c685 : Cs := { N := ["truth", "count", "k"], sc := defScope (top 20), gd := gd, gc := gc, gb := gb, fl := gf, mt := gm, cls := gk, cells := [], frz := [], retc := false, fcells := ["_nodes", "_numbers", "_results"], tdl := [], rv := [("store", 1)] }
def c686 : Cs := { N := ["truths", "count", "found", "waiting", "truth", "k"], sc := defScope (top 21), gd := gd, gc := gc, gb := gb, fl := gf, mt := gm, cls := gk, cells := ["found", "waiting"], frz := [], retc := false, fcells := ["_nodes", "_numbers", "_results"], tdl := [], rv := [("store", 1)] }
def c0 : Cs := { N := ["truth", "entries", "known", "k"], sc := defScope (top 22), gd := gd, gc := gc, gb := gb, fl := gf, mt := gm, cls := gk, cells := [], frz := [], retc := false, fcells := ["_nodes", "_numbers", "_results"], tdl := [], rv := [("store", 1)] }
def c1 : Cs := { N := ["truth", "known"], sc := defScope (top 23), gd := gd, gc := gc, gb := gb, fl := gf, mt := gm, cls := gk, cells := [], frz := [], retc := false, fcells := ["_nodes", "_numbers", "_results"], tdl := [], rv := [("store", 1)] }
def c2 : Cs := { N := ["script", "draw", "entries", "store", "trees", "k", "conditions", "tree", "truths", "known", "nodes", "truth", "at", "parts", "side", "many", "handed", "kept", "due"], sc := defScope (top 24), gd := gd, gc := gc, gb := gb, fl := gf, mt := gm, cls := gk, cells := ["nodes"], frz := [(271, [10])], retc := false, fcells := ["_nodes", "_numbers", "_results"], tdl := [], rv := [("store", 1)] }
def b155 : List Z.St := [.ifs (.or (.cmp (.eq) (.var 0) (.glob 107)) (.cmp (.eq) (.var 1) (.glob 107))) [.ret (.glob 107)] [], .ifs (.cmp (.eq) (.var 0) (.glob 108)) [.ret (.var 1)] [], .ret (.ite (.or (.cmp (.eq) (.var 1) (.glob 108)) (.cmp (.eq) (.var 0) (.var 1))) (.var 0) (.con (.non)))]
def d155 : Df := { slots := 2, params := 2, body := b155, keep := false, alone := true, init := false }
def b156 : List Z.St := [.ifs (.or (.cmp (.eq) (.var 0) (.glob 108)) (.cmp (.eq) (.var 1) (.glob 108))) [.ret (.glob 108)] [], .ifs (.cmp (.eq) (.var 0) (.glob 107)) [.ret (.var 1)] [], .ret (.ite (.or (.cmp (.eq) (.var 1) (.glob 107)) (.cmp (.eq) (.var 0) (.var 1))) (.var 0) (.con (.non)))]
def d156 : Df := { slots := 2, params := 2, body := b156, keep := false, alone := true, init := false }
def b157 : List Z.St := [.ifs (.cmp (.eq) (.var 0) (.var 1)) [.ret (.glob 107)] [], .ifs (.cmp (.eq) (.var 0) (.glob 107)) [.ret (.var 1)] [], .ret (.ite (.cmp (.eq) (.var 1) (.glob 107)) (.var 0) (.con (.non)))]
def d157 : Df := { slots := 2, params := 2, body := b157, keep := false, alone := true, init := false }
def b158 : List Z.St := [.fld (.var 0) 3 [1] (.lst true [.con (.non), .con (.non)]), .fld (.var 0) 4 [1] (.dct true true []), .fld (.var 0) 5 [1] (.dct true true [])]
def d158 : Df := { slots := 1, params := 1, body := b158, keep := true, alone := false, init := true }
def b159 : List Z.St := [.ifs (.cmp (.eq) (.var 2) (.var 3)) [.ret (.var 2)] [], .asg (.var 4) (.tup [.var 1, .var 2, .var 3]), .ifs (.cmp (.nmem) (.var 4) (.fld (.var 0) 4 [1])) [.sub (.fld (.var 0) 4 [1]) (.var 4) (.bf (.len) false [.fld (.var 0) 3 [1]]), .expr (.bm (.append) (.fld (.var 0) 3 [1]) [.var 4])] [], .ret (.ix (.fld (.var 0) 4 [1]) (.var 4))]
def d159 : Df := { slots := 5, params := 4, body := b159, keep := true, alone := false, init := false }
def b160 : List Z.St := [.ret (.meth (.var 0) [(1, 159)] [.var 1, .glob 107, .glob 108])]
def d160 : Df := { slots := 2, params := 2, body := b160, keep := true, alone := false, init := false }
def b161 : List Z.St := [.ret (.ix (.fld (.var 0) 3 [1]) (.var 1))]
def d161 : Df := { slots := 2, params := 2, body := b161, keep := true, alone := false, init := false }
def b162 : List Z.St := [.asg (.var 4) (.ix (.glob 109) (.var 1)), .asg (.var 5) (.callv 4 [.var 2, .var 3]), .ifs (.cmp (.isn) (.var 5) (.con (.non))) [.ret (.var 5)] [], .asg (.var 6) (.tup [.var 1, .bf (.min) false [.var 2, .var 3], .bf (.max) false [.var 2, .var 3]]), .ifs (.cmp (.nmem) (.var 6) (.fld (.var 0) 5 [1])) [.sub (.fld (.var 0) 5 [1]) (.var 6) (.meth (.var 0) [(1, 163)] [.var 1, .var 2, .var 3])] [], .ret (.ix (.fld (.var 0) 5 [1]) (.var 6))]
def d162 : Df := { slots := 7, params := 4, body := b162, keep := true, alone := false, init := false }
def b163 : List Z.St := [.asg (.var 4) (.ix (.fld (.var 0) 3 [1]) (.var 2)), .asg (.var 5) (.ite (.cmp (.gt) (.var 3) (.con (.int 1))) (.ix (.fld (.var 0) 3 [1]) (.var 3)) (.con (.non))), .ifs (.or (.cmp (.is) (.var 4) (.con (.non))) (.and (.cmp (.isn) (.var 5) (.con (.non))) (.cmp (.lt) (.ix (.var 5) (.con (.int 0))) (.ix (.var 4) (.con (.int 0)))))) [.ret (.meth (.var 0) [(1, 163)] [.var 1, .var 3, .var 2])] [], .ifs (.or (.cmp (.is) (.var 5) (.con (.non))) (.cmp (.lt) (.ix (.var 4) (.con (.int 0))) (.ix (.var 5) (.con (.int 0))))) [.asg (.var 5) (.tup [.ix (.var 4) (.con (.int 0)), .var 3, .var 3])] [], .asg (.var 6) (.meth (.var 0) [(1, 162)] [.var 1, .ix (.var 4) (.con (.int 1)), .ix (.var 5) (.con (.int 1))]), .ret (.meth (.var 0) [(1, 159)] [.ix (.var 4) (.con (.int 0)), .var 6, .meth (.var 0) [(1, 162)] [.var 1, .ix (.var 4) (.con (.int 2)), .ix (.var 5) (.con (.int 2))]])]
def d163 : Df := { slots := 7, params := 4, body := b163, keep := true, alone := false, init := false }
def b164 : List Z.St := [.ret (.meth (.var 0) [(1, 162)] [.con (.str [97, 110, 100]), .var 1, .var 2])]
def d164 : Df := { slots := 3, params := 3, body := b164, keep := true, alone := false, init := false }
def b165 : List Z.St := [.ret (.meth (.var 0) [(1, 162)] [.con (.str [111, 114]), .var 1, .var 2])]
def d165 : Df := { slots := 3, params := 3, body := b165, keep := true, alone := false, init := false }
def b166 : List Z.St := [.ret (.meth (.var 0) [(1, 162)] [.con (.str [100, 105, 102, 102, 101, 114]), .var 1, .var 2])]
def d166 : Df := { slots := 3, params := 3, body := b166, keep := true, alone := false, init := false }
def b167 : List Z.St := [.ret (.meth (.var 0) [(1, 166)] [.var 1, .glob 108])]
def d167 : Df := { slots := 2, params := 2, body := b167, keep := true, alone := false, init := false }
def b170 : List Z.St := [.whl (.cmp (.gt) (.var 1) (.glob 108)) [.asg (.tup [.var 3, .var 4, .var 5]) (.ix (.fld (.var 0) 3 [1]) (.var 1)), .asg (.var 1) (.ite (.cmp (.mem) (.var 3) (.var 2)) (.var 5) (.var 4))], .ret (.cmp (.eq) (.var 1) (.glob 108))]
def d170 : Df := { slots := 6, params := 3, body := b170, keep := true, alone := false, init := false }
def b171 : List Z.St := [.asg (.var 2) (.dct false true []), .fors (.var 3) (.seq) [.var 1] [.asg (.var 4) (.lst true [.var 3]), .whl (.var 4) [.asg (.var 5) (.ix (.var 4) (.neg (.con (.int 1)))), .asg (.var 6) (.lc false (.var 7) (.var 7) [7] (.seq) [.meth (.var 0) [(1, 172)] [.var 5]] (some (.cmp (.nmem) (.var 7) (.var 2)))), .ifs (.var 6) [.expr (.bm (.append) (.var 4) [.ix (.var 6) (.con (.int 0))])] [.expr (.bm (.pop) (.var 4) []), .ifs (.cmp (.gt) (.var 5) (.glob 108)) [.sub (.var 2) (.var 5) (.con (.bl true))] []]]], .ret (.bf (.list) false [.var 2])]
def d171 : Df := { slots := 8, params := 2, body := b171, keep := true, alone := false, init := false }
def b172 : List Z.St := [.ifs (.cmp (.le) (.var 1) (.glob 108)) [.ret (.lst false [])] [], .ret (.lc false (.var 2) (.var 2) [2] (.seq) [.sl (.ix (.fld (.var 0) 3 [1]) (.var 1)) (some (.con (.int 1))) none] (some (.cmp (.gt) (.var 2) (.glob 108))))]
def d172 : Df := { slots := 3, params := 2, body := b172, keep := true, alone := false, init := false }
def b173 : List Z.St := [.ret (.bf (.len) false [.meth (.var 0) [(1, 171)] [.var 1]])]
def d173 : Df := { slots := 2, params := 2, body := b173, keep := true, alone := false, init := false }
def b180 : List Z.St := [.asg (.var 2) (.dct false true [.glob 107, .con (.int 0), .glob 108, .con (.int 1)]), .asg (.var 3) (.lst true []), .fors (.var 4) (.seq) [.meth (.var 0) [(1, 171)] [.lst false [.var 1]]] [.asg (.tup [.var 5, .var 6, .var 7]) (.ix (.fld (.var 0) 3 [1]) (.var 4)), .sub (.var 2) (.var 4) (.op (.add) (.bf (.len) false [.var 3]) (.con (.int 2))), .expr (.bm (.append) (.var 3) [.tup [.var 5, .ix (.var 2) (.var 6), .ix (.var 2) (.var 7)]])], .frz [3], .ret (.tup [.var 3, .ix (.var 2) (.var 1)])]
def d180 : Df := { slots := 8, params := 2, body := b180, keep := true, alone := false, init := false }
def b500 : List Z.St := [.ret (.lst true [.bf (.list) false [.var 0], .con (.int 0), .con (.int 0), .con (.int 17)])]
def d500 : Df := { slots := 1, params := 1, body := b500, keep := true, alone := false, init := false }
def b501 : List Z.St := [.ifs (.cmp (.gt) (.ix (.var 0) (.con (.int 2))) (.con (.int 0))) [.asg (.var 2) (.op (.mod) (.bf (.int) false [.ix (.var 0) (.con (.int 2))]) (.var 1)), .sub (.var 0) (.con (.int 2)) (.op (.fdiv) (.ix (.var 0) (.con (.int 2))) (.var 1)), .ret (.var 2)] [], .ifs (.cmp (.lt) (.ix (.var 0) (.con (.int 1))) (.bf (.len) false [.ix (.var 0) (.con (.int 0))])) [.asg (.var 3) (.bf (.abs) false [.ix (.ix (.var 0) (.con (.int 0))) (.ix (.var 0) (.con (.int 1)))]), .sub (.var 0) (.con (.int 1)) (.op (.add) (.ix (.var 0) (.con (.int 1))) (.con (.int 1))), .ifs (.cmp (.ge) (.var 3) (.op (.pow) (.con (.int 10)) (.con (.int 18)))) [.sub (.var 0) (.con (.int 2)) (.op (.fdiv) (.var 3) (.var 1)), .ret (.op (.mod) (.bf (.int) false [.var 3]) (.var 1))] [], .sub (.var 0) (.con (.int 3)) (.op (.mod) (.bf (.int) false [.op (.add) (.op (.add) (.op (.mul) (.ix (.var 0) (.con (.int 3))) (.con (.int 48271))) (.var 3)) (.con (.int 11))]) (.con (.int 2147483647)))] [.sub (.var 0) (.con (.int 3)) (.op (.mod) (.bf (.int) false [.op (.add) (.op (.mul) (.ix (.var 0) (.con (.int 3))) (.con (.int 48271))) (.con (.int 12345))]) (.con (.int 2147483647)))], .ret (.op (.mod) (.op (.fdiv) (.bf (.int) false [.op (.mod) (.op (.mul) (.ix (.var 0) (.con (.int 3))) (.con (.int 69621))) (.con (.int 2147483629))]) (.con (.int 7))) (.var 1))]
def d501 : Df := { slots := 4, params := 2, body := b501, keep := true, alone := false, init := false }
def b507 : List Z.St := [.ifs (.bf (.isinst [2, 3]) false [.var 1]) [.ifs (.or (.cmp (.ne) (.bf (.isinst [2]) false [.var 1]) (.bf (.isinst [2]) false [.var 0])) (.cmp (.ne) (.bf (.isinst [3]) false [.var 1]) (.bf (.isinst [3]) false [.var 0]))) [.ret (.con (.bl false))] [], .ifs (.cmp (.ne) (.bf (.len) false [.var 0]) (.bf (.len) false [.var 1])) [.ret (.con (.bl false))] [], .ret (.bf (.all) false [.lc false (.call 507 [.ix (.var 0) (.var 2), .ix (.var 1) (.var 2)]) (.var 2) [2] (.range) [.bf (.len) false [.var 1]] none])] [], .ifs (.cmp (.is) (.var 1) (.con (.non))) [.ret (.cmp (.is) (.var 0) (.con (.non)))] [], .ifs (.cmp (.ne) (.bf (.isinst [4]) false [.var 1]) (.bf (.isinst [4]) false [.var 0])) [.ret (.con (.bl false))] [], .ifs (.bf (.isinst [1]) false [.var 1]) [.ret (.and (.bf (.isinst [1]) false [.var 0]) (.cmp (.eq) (.var 0) (.var 1)))] [], .ret (.and (.bf (.isinst [0]) false [.var 0]) (.cmp (.eq) (.var 0) (.var 1)))]
def d507 : Df := { slots := 3, params := 2, body := b507, keep := false, alone := true, init := false }
def b678 : List Z.St := [.asg (.var 2) (.lst true []), .asg (.var 3) (.call 501 [.var 0, .con (.int 3)]), .fors (.var 4) (.range) [.op (.add) (.con (.int 1)) (.call 501 [.var 0, .var 1])] [.expr (.bm (.append) (.var 2) [.var 3]), .asg (.var 3) (.op (.add) (.op (.add) (.var 3) (.con (.int 1))) (.op (.mul) (.call 501 [.var 0, .con (.int 2)]) (.call 501 [.var 0, .con (.int 90)])))], .ret (.var 2)]
def d678 : Df := { slots := 5, params := 2, body := b678, keep := false, alone := false, init := false }
def b679 : List Z.St := [.asg (.var 3) (.call 501 [.var 0, .con (.int 9)]), .ifs (.or (.cmp (.eq) (.var 2) (.con (.int 0))) (.cmp (.lt) (.var 3) (.con (.int 2)))) [.ifs (.cmp (.eq) (.call 501 [.var 0, .con (.int 12)]) (.con (.int 0))) [.ret (.tup [.con (.str [99, 111, 110, 115, 116, 97, 110, 116]), .call 501 [.var 0, .con (.int 2)]])] [], .ret (.tup [.con (.str [116, 104, 101, 114, 101]), .ix (.var 1) (.call 501 [.var 0, .bf (.len) false [.var 1]])])] [], .ifs (.cmp (.eq) (.var 3) (.con (.int 2))) [.ret (.tup [.con (.str [110, 111, 116]), .call 679 [.var 0, .var 1, .op (.sub) (.var 2) (.con (.int 1))]])] [], .asg (.var 4) (.call 679 [.var 0, .var 1, .op (.sub) (.var 2) (.con (.int 1))]), .ret (.tup [.ix (.lst false [.con (.str [97, 110, 100]), .con (.str [111, 114]), .con (.str [100, 105, 102, 102, 101, 114])]) (.op (.mod) (.var 3) (.con (.int 3))), .var 4, .call 679 [.var 0, .var 1, .op (.sub) (.var 2) (.con (.int 1))]])]
def d679 : Df := { slots := 5, params := 3, body := b679, keep := true, alone := false, init := false }
def b680 : List Z.St := [.ifs (.cmp (.eq) (.ix (.var 1) (.con (.int 0))) (.con (.str [99, 111, 110, 115, 116, 97, 110, 116]))) [.ret (.ix (.var 1) (.con (.int 1)))] [], .ifs (.cmp (.eq) (.ix (.var 1) (.con (.int 0))) (.con (.str [116, 104, 101, 114, 101]))) [.ret (.meth (.var 0) [(1, 160)] [.ix (.var 1) (.con (.int 1))])] [], .asg (.var 2) (.call 680 [.var 0, .ix (.var 1) (.con (.int 1))]), .ifs (.cmp (.eq) (.ix (.var 1) (.con (.int 0))) (.con (.str [110, 111, 116]))) [.ret (.meth (.var 0) [(1, 167)] [.var 2])] [], .asg (.var 3) (.call 680 [.var 0, .ix (.var 1) (.con (.int 2))]), .ifs (.cmp (.eq) (.ix (.var 1) (.con (.int 0))) (.con (.str [97, 110, 100]))) [.ret (.meth (.var 0) [(1, 164)] [.var 2, .var 3])] [], .ret (.ite (.cmp (.eq) (.ix (.var 1) (.con (.int 0))) (.con (.str [111, 114]))) (.meth (.var 0) [(1, 165)] [.var 2, .var 3]) (.meth (.var 0) [(1, 166)] [.var 2, .var 3]))]
def d680 : Df := { slots := 4, params := 2, body := b680, keep := true, alone := false, init := false }
def b681 : List Z.St := [.ifs (.cmp (.eq) (.ix (.var 0) (.con (.int 0))) (.con (.str [99, 111, 110, 115, 116, 97, 110, 116]))) [.ret (.cmp (.eq) (.ix (.var 0) (.con (.int 1))) (.con (.int 1)))] [], .ifs (.cmp (.eq) (.ix (.var 0) (.con (.int 0))) (.con (.str [116, 104, 101, 114, 101]))) [.ret (.cmp (.mem) (.ix (.var 0) (.con (.int 1))) (.var 1))] [], .asg (.var 2) (.call 681 [.ix (.var 0) (.con (.int 1)), .var 1]), .ifs (.cmp (.eq) (.ix (.var 0) (.con (.int 0))) (.con (.str [110, 111, 116]))) [.ret (.not (.var 2))] [], .asg (.var 3) (.call 681 [.ix (.var 0) (.con (.int 2)), .var 1]), .ifs (.cmp (.eq) (.ix (.var 0) (.con (.int 0))) (.con (.str [97, 110, 100]))) [.ret (.and (.var 2) (.var 3))] [], .ret (.ite (.cmp (.eq) (.ix (.var 0) (.con (.int 0))) (.con (.str [111, 114]))) (.or (.var 2) (.var 3)) (.cmp (.ne) (.var 2) (.var 3)))]
def d681 : Df := { slots := 4, params := 2, body := b681, keep := false, alone := true, init := false }
def b682 : List Z.St := [.asg (.var 1) (.lst false [.lst false []]), .fors (.var 2) (.seq) [.var 0] [.asg (.var 1) (.op (.add) (.var 1) (.lc false (.op (.add) (.var 3) (.lst false [.var 2])) (.var 3) [3] (.seq) [.var 1] none))], .ret (.var 1)]
def d682 : Df := { slots := 4, params := 1, body := b682, keep := false, alone := true, init := false }
def b683 : List Z.St := [.ret (.bf (.tuple) false [.lc false (.call 681 [.var 0, .var 2]) (.var 2) [2] (.seq) [.call 682 [.var 1]] none])]
def d683 : Df := { slots := 3, params := 2, body := b683, keep := false, alone := true, init := false }
def b684 : List Z.St := [.asg (.var 3) (.con (.int 1)), .fors (.var 4) (.range) [.var 1] [.asg (.var 3) (.op (.mul) (.var 3) (.con (.int 2)))], .asg (.var 5) (.lst true []), .fors (.var 6) (.range) [.bf (.len) false [.var 0]] [.asg (.var 7) (.ite (.cmp (.eq) (.op (.mod) (.op (.fdiv) (.var 6) (.var 3)) (.con (.int 2))) (.con (.int 1))) (.op (.sub) (.var 6) (.var 3)) (.var 6)), .expr (.bm (.append) (.var 5) [.ix (.var 0) (.op (.add) (.var 7) (.op (.mul) (.var 3) (.var 2)))])], .frz [5], .ret (.bf (.tuple) false [.var 5])]
def d684 : Df := { slots := 8, params := 3, body := b684, keep := false, alone := true, init := false }
def b685 : List Z.St := [.fors (.var 2) (.range) [.var 1] [.ifs (.cmp (.ne) (.call 684 [.var 0, .var 2, .con (.int 0)]) (.call 684 [.var 0, .var 2, .con (.int 1)])) [.ret (.var 2)] []], .ret (.con (.non))]
def d685 : Df := { slots := 3, params := 2, body := b685, keep := false, alone := true, init := false }
def b686 : List Z.St := [.asg (.var 2) (.lst true []), .asg (.var 3) (.bf (.list) true [.var 0]), .whl (.var 3) [.asg (.var 4) (.bm (.pop) (.var 3) []), .asg (.var 5) (.call 685 [.var 4, .var 1]), .ifs (.and (.cmp (.isn) (.var 5) (.con (.non))) (.cmp (.nmem) (.var 4) (.var 2))) [.expr (.bm (.append) (.var 2) [.var 4]), .expr (.bm (.append) (.var 3) [.call 684 [.var 4, .var 5, .con (.int 0)]]), .expr (.bm (.append) (.var 3) [.call 684 [.var 4, .var 5, .con (.int 1)]])] []], .ret (.var 2)]
def d686 : Df := { slots := 6, params := 2, body := b686, keep := false, alone := true, init := false }
def b0 : List Z.St := [.asg (.var 3) (.call 685 [.var 0, .bf (.len) false [.var 1]]), .ifs (.or (.cmp (.is) (.var 3) (.con (.non))) (.cmp (.mem) (.var 0) (.var 2))) [.ret (.var 2)] [], .asg (.var 2) (.call 0 [.call 684 [.var 0, .var 3, .con (.int 0)], .var 1, .var 2]), .asg (.var 2) (.call 0 [.call 684 [.var 0, .var 3, .con (.int 1)], .var 1, .var 2]), .ret (.op (.add) (.var 2) (.lst false [.var 0]))]
def d0 : Df := { slots := 4, params := 3, body := b0, keep := false, alone := true, init := false }
def b1 : List Z.St := [.ifs (.cmp (.mem) (.var 0) (.var 1)) [.ret (.op (.add) (.bm (.index) (.var 1) [.var 0]) (.con (.int 2)))] [], .ret (.bf (.int) false [.ix (.var 0) (.con (.int 0))])]
def d1 : Df := { slots := 2, params := 2, body := b1, keep := false, alone := true, init := false }
def b2 : List Z.St := [.asg (.var 1) (.call 500 [.var 0]), .asg (.var 2) (.call 678 [.var 1, .con (.int 5)]), .asg (.var 3) (.make 1 158 []), .asg (.var 4) (.lc false (.call 679 [.var 1, .var 2, .op (.add) (.con (.int 1)) (.call 501 [.var 1, .con (.int 5)])]) (.var 5) [5] (.range) [.con (.int 3)] none), .asg (.var 6) (.lc false (.call 680 [.var 3, .var 7]) (.var 7) [7] (.seq) [.var 4] none), .asg (.var 8) (.lc false (.call 683 [.var 7, .var 2]) (.var 7) [7] (.seq) [.var 4] none), .fors (.var 5) (.range) [.con (.int 3)] [.asg (.var 9) (.call 0 [.ix (.var 8) (.var 5), .var 2, .lst false []]), .asg (.var 10) (.lst true []), .fors (.var 11) (.seq) [.var 9] [.asg (.var 12) (.call 685 [.var 11, .bf (.len) false [.var 2]]), .asg (.var 13) (.lc false (.call 1 [.call 684 [.var 11, .var 12, .var 14], .var 9]) (.var 14) [14] (.seq) [.tup [.con (.int 0), .con (.int 1)]] none), .expr (.bm (.append) (.var 10) [.tup [.ix (.var 2) (.var 12), .ix (.var 13) (.con (.int 0)), .ix (.var 13) (.con (.int 1))]])], .frz [10], .ifs (.not (.call 507 [.meth (.var 3) [(1, 180)] [.ix (.var 6) (.var 5)], .tup [.var 10, .call 1 [.ix (.var 8) (.var 5), .var 9]]])) [.ret (.con (.bl false))] []], .asg (.var 15) (.call 501 [.var 1, .con (.int 4)]), .asg (.var 16) (.op (.add) (.sl (.var 6) none (some (.var 15))) (.sl (.var 6) none (some (.call 501 [.var 1, .con (.int 2)])))), .asg (.var 17) (.bf (.list) false [.var 16]), .asg (.var 18) (.bf (.len) false [.call 686 [.op (.add) (.sl (.var 8) none (some (.var 15))) (.sl (.var 8) none (some (.op (.sub) (.bf (.len) false [.var 16]) (.var 15)))), .bf (.len) false [.var 2]]]), .ret (.and (.call 507 [.meth (.var 3) [(1, 173)] [.var 16], .var 18]) (.cmp (.eq) (.var 16) (.var 17)))]
def d2 : Df := { slots := 19, params := 1, body := b2, keep := false, alone := true, init := false }
def cons : List (Nat × D) := [(107, .int (0)), (108, .int (1)), (109, .wd [[97, 110, 100], [111, 114], [100, 105, 102, 102, 101, 114]] [.fn 155, .fn 156, .fn 157])]
def defs : List (Nat × Df) := [(155, d155), (156, d156), (157, d157), (158, d158), (159, d159), (160, d160), (161, d161), (162, d162), (163, d163), (164, d164), (165, d165), (166, d166), (167, d167), (170, d170), (171, d171), (172, d172), (173, d173), (180, d180), (500, d500), (501, d501), (507, d507), (678, d678), (679, d679), (680, d680), (681, d681), (682, d682), (683, d683), (684, d684), (685, d685), (686, d686), (0, d0), (1, d1), (2, d2)]
def G : Gm := { con := fun n => (List.lookup n cons).getD .non, defs := fun n => List.lookup n defs, fuel := 1000000000 }
theorem k155 : cSs c155 60 (defBody (top 4)) = some b155 := by rfl
theorem s155 : FnScope c155.N ["first", "second"] (defScope (top 4)) := ⟨rfl, rfl, rfl, by decide +kernel, rfl, by decide +kernel, by decide +kernel⟩
theorem k156 : cSs c156 60 (defBody (top 5)) = some b156 := by rfl
theorem s156 : FnScope c156.N ["first", "second"] (defScope (top 5)) := ⟨rfl, rfl, rfl, by decide +kernel, rfl, by decide +kernel, by decide +kernel⟩
theorem k157 : cSs c157 60 (defBody (top 6)) = some b157 := by rfl
theorem s157 : FnScope c157.N ["first", "second"] (defScope (top 6)) := ⟨rfl, rfl, rfl, by decide +kernel, rfl, by decide +kernel, by decide +kernel⟩
theorem k158 : cSs c158 60 (defBody (mtd 8 0)) = some b158 := by rfl
theorem s158 : FnScope c158.N ["self"] (defScope (mtd 8 0)) := ⟨rfl, rfl, rfl, by decide +kernel, rfl, by decide +kernel, by decide +kernel⟩
theorem k159 : cSs c159 60 (defBody (mtd 8 1)) = some b159 := by rfl
theorem s159 : FnScope c159.N ["self", "entry", "without", "there"] (defScope (mtd 8 1)) := ⟨rfl, rfl, rfl, by decide +kernel, rfl, by decide +kernel, by decide +kernel⟩
theorem k160 : cSs c160 60 (defBody (mtd 8 2)) = some b160 := by rfl
theorem s160 : FnScope c160.N ["self", "entry"] (defScope (mtd 8 2)) := ⟨rfl, rfl, rfl, by decide +kernel, rfl, by decide +kernel, by decide +kernel⟩
theorem k161 : cSs c161 60 (defBody (mtd 8 3)) = some b161 := by rfl
theorem s161 : FnScope c161.N ["self", "condition"] (defScope (mtd 8 3)) := ⟨rfl, rfl, rfl, by decide +kernel, rfl, by decide +kernel, by decide +kernel⟩
theorem k162 : cSs c162 60 (defBody (mtd 8 4)) = some b162 := by rfl
theorem s162 : FnScope c162.N ["self", "form", "first", "second"] (defScope (mtd 8 4)) := ⟨rfl, rfl, rfl, by decide +kernel, rfl, by decide +kernel, by decide +kernel⟩
theorem k163 : cSs c163 60 (defBody (mtd 8 5)) = some b163 := by rfl
theorem s163 : FnScope c163.N ["self", "form", "first", "second"] (defScope (mtd 8 5)) := ⟨rfl, rfl, rfl, by decide +kernel, rfl, by decide +kernel, by decide +kernel⟩
theorem k164 : cSs c164 60 (defBody (mtd 8 6)) = some b164 := by rfl
theorem s164 : FnScope c164.N ["self", "first", "second"] (defScope (mtd 8 6)) := ⟨rfl, rfl, rfl, by decide +kernel, rfl, by decide +kernel, by decide +kernel⟩
theorem k165 : cSs c165 60 (defBody (mtd 8 7)) = some b165 := by rfl
theorem s165 : FnScope c165.N ["self", "first", "second"] (defScope (mtd 8 7)) := ⟨rfl, rfl, rfl, by decide +kernel, rfl, by decide +kernel, by decide +kernel⟩
theorem k166 : cSs c166 60 (defBody (mtd 8 8)) = some b166 := by rfl
theorem s166 : FnScope c166.N ["self", "first", "second"] (defScope (mtd 8 8)) := ⟨rfl, rfl, rfl, by decide +kernel, rfl, by decide +kernel, by decide +kernel⟩
theorem k167 : cSs c167 60 (defBody (mtd 8 9)) = some b167 := by rfl
theorem s167 : FnScope c167.N ["self", "condition"] (defScope (mtd 8 9)) := ⟨rfl, rfl, rfl, by decide +kernel, rfl, by decide +kernel, by decide +kernel⟩
theorem k170 : cSs c170 60 (defBody (mtd 8 12)) = some b170 := by rfl
theorem s170 : FnScope c170.N ["self", "condition", "present"] (defScope (mtd 8 12)) := ⟨rfl, rfl, rfl, by decide +kernel, rfl, by decide +kernel, by decide +kernel⟩
theorem k171 : cSs c171 60 (defBody (mtd 8 13)) = some b171 := by rfl
theorem s171 : FnScope c171.N ["self", "conditions"] (defScope (mtd 8 13)) := ⟨rfl, rfl, rfl, by decide +kernel, rfl, by decide +kernel, by decide +kernel⟩
theorem k172 : cSs c172 60 (defBody (mtd 8 14)) = some b172 := by rfl
theorem s172 : FnScope c172.N ["self", "condition"] (defScope (mtd 8 14)) := ⟨rfl, rfl, rfl, by decide +kernel, rfl, by decide +kernel, by decide +kernel⟩
theorem k173 : cSs c173 60 (defBody (mtd 8 15)) = some b173 := by rfl
theorem s173 : FnScope c173.N ["self", "conditions"] (defScope (mtd 8 15)) := ⟨rfl, rfl, rfl, by decide +kernel, rfl, by decide +kernel, by decide +kernel⟩
theorem k180 : cSs c180 60 (defBody (mtd 8 22)) = some b180 := by rfl
theorem s180 : FnScope c180.N ["self", "condition"] (defScope (mtd 8 22)) := ⟨rfl, rfl, rfl, by decide +kernel, rfl, by decide +kernel, by decide +kernel⟩
theorem k500 : cSs c500 60 (defBody (top 10)) = some b500 := by rfl
theorem s500 : FnScope c500.N ["script"] (defScope (top 10)) := ⟨rfl, rfl, rfl, by decide +kernel, rfl, by decide +kernel, by decide +kernel⟩
theorem k501 : cSs c501 60 (defBody (top 11)) = some b501 := by rfl
theorem s501 : FnScope c501.N ["draw", "many"] (defScope (top 11)) := ⟨rfl, rfl, rfl, by decide +kernel, rfl, by decide +kernel, by decide +kernel⟩
theorem k507 : cSs c507 60 (defBody (top 12)) = some b507 := by rfl
theorem s507 : FnScope c507.N ["actual", "due"] (defScope (top 12)) := ⟨rfl, rfl, rfl, by decide +kernel, rfl, by decide +kernel, by decide +kernel⟩
theorem k678 : cSs c678 60 (defBody (top 13)) = some b678 := by rfl
theorem s678 : FnScope c678.N ["draw", "most"] (defScope (top 13)) := ⟨rfl, rfl, rfl, by decide +kernel, rfl, by decide +kernel, by decide +kernel⟩
theorem k679 : cSs c679 60 (defBody (top 14)) = some b679 := by rfl
theorem s679 : FnScope c679.N ["draw", "entries", "depth"] (defScope (top 14)) := ⟨rfl, rfl, rfl, by decide +kernel, rfl, by decide +kernel, by decide +kernel⟩
theorem k680 : cSs c680 60 (defBody (top 15)) = some b680 := by rfl
theorem s680 : FnScope c680.N ["store", "tree"] (defScope (top 15)) := ⟨rfl, rfl, rfl, by decide +kernel, rfl, by decide +kernel, by decide +kernel⟩
theorem k681 : cSs c681 60 (defBody (top 16)) = some b681 := by rfl
theorem s681 : FnScope c681.N ["tree", "present"] (defScope (top 16)) := ⟨rfl, rfl, rfl, by decide +kernel, rfl, by decide +kernel, by decide +kernel⟩
theorem k682 : cSs c682 60 (defBody (top 17)) = some b682 := by rfl
theorem s682 : FnScope c682.N ["entries"] (defScope (top 17)) := ⟨rfl, rfl, rfl, by decide +kernel, rfl, by decide +kernel, by decide +kernel⟩
theorem k683 : cSs c683 60 (defBody (top 18)) = some b683 := by rfl
theorem s683 : FnScope c683.N ["tree", "entries"] (defScope (top 18)) := ⟨rfl, rfl, rfl, by decide +kernel, rfl, by decide +kernel, by decide +kernel⟩
theorem k684 : cSs c684 60 (defBody (top 19)) = some b684 := by rfl
theorem s684 : FnScope c684.N ["truth", "k", "there"] (defScope (top 19)) := ⟨rfl, rfl, rfl, by decide +kernel, rfl, by decide +kernel, by decide +kernel⟩
theorem k685 : cSs c685 60 (defBody (top 20)) = some b685 := by rfl
theorem s685 : FnScope c685.N ["truth", "count"] (defScope (top 20)) := ⟨rfl, rfl, rfl, by decide +kernel, rfl, by decide +kernel, by decide +kernel⟩
theorem k686 : cSs c686 60 (defBody (top 21)) = some b686 := by rfl
theorem s686 : FnScope c686.N ["truths", "count"] (defScope (top 21)) := ⟨rfl, rfl, rfl, by decide +kernel, rfl, by decide +kernel, by decide +kernel⟩
theorem k0 : cSs c0 60 (defBody (top 22)) = some b0 := by rfl
theorem s0 : FnScope c0.N ["truth", "entries", "known"] (defScope (top 22)) := ⟨rfl, rfl, rfl, by decide +kernel, rfl, by decide +kernel, by decide +kernel⟩
theorem k1 : cSs c1 60 (defBody (top 23)) = some b1 := by rfl
theorem s1 : FnScope c1.N ["truth", "known"] (defScope (top 23)) := ⟨rfl, rfl, rfl, by decide +kernel, rfl, by decide +kernel, by decide +kernel⟩
theorem k2 : cSs c2 60 (defBody (top 24)) = some b2 := by rfl
theorem s2 : FnScope c2.N ["script"] (defScope (top 24)) := ⟨rfl, rfl, rfl, by decide +kernel, rfl, by decide +kernel, by decide +kernel⟩
def NM : List Str := ["store", "most_cases", "most_nodes", "_nodes", "_numbers", "_results", "line", "column", "message", "name", "plans", "entries", "next_entry", "marks", "ran", "most_rows", "now", "past", "versions", "pipelines", "out", "tables", "steps", "source", "parts", "taken"]
theorem nmI : nmB NM = true := by decide +kernel
theorem all_mk {l : PySem.W.OpenLaw} {w : World} {K : PySem.W.Frag} {h : Heap} {mg : Str → Option Value} {fa : Addr} (X : K.In h) (GN : h.Ns mainGlobals mg) (hfa : mg "law" = some (.ref fa))
    {f155 f156 f157 f158 f159 f160 f161 f162 f163 f164 f165 f166 f167 f170 f171 f172 f173 f180 f500 f501 f507 f678 f679 f680 f681 f682 f683 f684 f685 f686 f0 f1 f2 C1 : Addr} {od155 an155 od156 an156 od157 an157 od158 an158 od159 an159 od160 an160 od161 an161 od162 an162 od163 an163 od164 an164 od165 an165 od166 an166 od167 an167 od170 an170 od171 an171 od172 an172 od173 an173 od180 an180 od500 an500 od501 an501 od507 an507 od678 an678 od679 an679 od680 an680 od681 an681 od682 an682 od683 an683 od684 an684 od685 an685 od686 an686 od0 an0 od1 an1 od2 an2 : Option Addr} {sl155 sl156 sl157 sl158 sl159 sl160 sl161 sl162 sl163 sl164 sl165 sl166 sl167 sl170 sl171 sl172 sl173 sl180 sl500 sl501 sl507 sl678 sl679 sl680 sl681 sl682 sl683 sl684 sl685 sl686 sl0 sl1 sl2 : Array (Option Value)} {oc155 kV155 dc155 pm155 cd155 ct155 oc156 kV156 dc156 pm156 cd156 ct156 oc157 kV157 dc157 pm157 cd157 ct157 oc158 kV158 dc158 pm158 cd158 ct158 oc159 kV159 dc159 pm159 cd159 ct159 oc160 kV160 dc160 pm160 cd160 ct160 oc161 kV161 dc161 pm161 cd161 ct161 oc162 kV162 dc162 pm162 cd162 ct162 oc163 kV163 dc163 pm163 cd163 ct163 oc164 kV164 dc164 pm164 cd164 ct164 oc165 kV165 dc165 pm165 cd165 ct165 oc166 kV166 dc166 pm166 cd166 ct166 oc167 kV167 dc167 pm167 cd167 ct167 oc170 kV170 dc170 pm170 cd170 ct170 oc171 kV171 dc171 pm171 cd171 ct171 oc172 kV172 dc172 pm172 cd172 ct172 oc173 kV173 dc173 pm173 cd173 ct173 oc180 kV180 dc180 pm180 cd180 ct180 oc500 kV500 dc500 pm500 cd500 ct500 oc501 kV501 dc501 pm501 cd501 ct501 oc507 kV507 dc507 pm507 cd507 ct507 oc678 kV678 dc678 pm678 cd678 ct678 oc679 kV679 dc679 pm679 cd679 ct679 oc680 kV680 dc680 pm680 cd680 ct680 oc681 kV681 dc681 pm681 cd681 ct681 oc682 kV682 dc682 pm682 cd682 ct682 oc683 kV683 dc683 pm683 cd683 ct683 oc684 kV684 dc684 pm684 cd684 ct684 oc685 kV685 dc685 pm685 cd685 ct685 oc686 kV686 dc686 pm686 cd686 ct686 oc0 kV0 dc0 pm0 cd0 ct0 oc1 kV1 dc1 pm1 cd1 ct1 oc2 kV2 dc2 pm2 cd2 ct2 : Value}
    (aC1 : PySem.W.nsIn K mainGlobals "Diagrams" = some (some (.ref C1))) (pg1 : PySem.W.plainGet K C1 Str.empty = true) (hd1 : PySem.W.hasDictIn K C1 = true) (po1 : PySem.W.plainOver K C1 = true) (sa1 : PySem.W.findIn K (.ref C1) "__setattr__" = some (some (.builtin "object.__setattr__"))) (mk1 : PySem.W.makesIn K C1 = true) (kc1 : PySem.W.keepIn K (.ref C1) = true)
    (n1_3 : PySem.W.findIn K (.ref C1) "_nodes" = some none)
    (n1_4 : PySem.W.findIn K (.ref C1) "_numbers" = some none)
    (n1_5 : PySem.W.findIn K (.ref C1) "_results" = some none)
    (a155 : PySem.W.nsIn K mainGlobals "and_leaf" = some (some (.ref f155)))
    (l155 : K.lookup f155 = some ⟨oc155, od155, .func (PySem.W.fnOf "and_leaf" "and_leaf" (defArgs (top 4)) (defBody (top 4)) (defScope (top 4)) .none kV155 dc155 pm155 an155 cd155 ct155), sl155⟩) (e155 : PySem.W.codeIn K cd155 "and_leaf" = true) (p155 : PySem.W.keepIn K (.ref f155) = true)
    (a156 : PySem.W.nsIn K mainGlobals "or_leaf" = some (some (.ref f156)))
    (l156 : K.lookup f156 = some ⟨oc156, od156, .func (PySem.W.fnOf "or_leaf" "or_leaf" (defArgs (top 5)) (defBody (top 5)) (defScope (top 5)) .none kV156 dc156 pm156 an156 cd156 ct156), sl156⟩) (e156 : PySem.W.codeIn K cd156 "or_leaf" = true) (p156 : PySem.W.keepIn K (.ref f156) = true)
    (a157 : PySem.W.nsIn K mainGlobals "differ_leaf" = some (some (.ref f157)))
    (l157 : K.lookup f157 = some ⟨oc157, od157, .func (PySem.W.fnOf "differ_leaf" "differ_leaf" (defArgs (top 6)) (defBody (top 6)) (defScope (top 6)) .none kV157 dc157 pm157 an157 cd157 ct157), sl157⟩) (e157 : PySem.W.codeIn K cd157 "differ_leaf" = true) (p157 : PySem.W.keepIn K (.ref f157) = true)
    (a158 : PySem.W.findIn K (.ref C1) "__init__" = some (some (.ref f158))) (i158 : PySem.W.isFn K (.ref f158) = true)
    (l158 : K.lookup f158 = some ⟨oc158, od158, .func (PySem.W.fnOf "__init__" "Diagrams.__init__" (defArgs (mtd 8 0)) (defBody (mtd 8 0)) (defScope (mtd 8 0)) .none kV158 dc158 pm158 an158 cd158 ct158), sl158⟩) (e158 : PySem.W.codeIn K cd158 "Diagrams.__init__" = true) (p158 : PySem.W.keepIn K (.ref f158) = true)
    (a159 : PySem.W.findIn K (.ref C1) "make" = some (some (.ref f159))) (i159 : PySem.W.isFn K (.ref f159) = true)
    (l159 : K.lookup f159 = some ⟨oc159, od159, .func (PySem.W.fnOf "make" "Diagrams.make" (defArgs (mtd 8 1)) (defBody (mtd 8 1)) (defScope (mtd 8 1)) .none kV159 dc159 pm159 an159 cd159 ct159), sl159⟩) (e159 : PySem.W.codeIn K cd159 "Diagrams.make" = true) (p159 : PySem.W.keepIn K (.ref f159) = true)
    (a160 : PySem.W.findIn K (.ref C1) "there" = some (some (.ref f160))) (i160 : PySem.W.isFn K (.ref f160) = true)
    (l160 : K.lookup f160 = some ⟨oc160, od160, .func (PySem.W.fnOf "there" "Diagrams.there" (defArgs (mtd 8 2)) (defBody (mtd 8 2)) (defScope (mtd 8 2)) .none kV160 dc160 pm160 an160 cd160 ct160), sl160⟩) (e160 : PySem.W.codeIn K cd160 "Diagrams.there" = true) (p160 : PySem.W.keepIn K (.ref f160) = true)
    (a161 : PySem.W.findIn K (.ref C1) "node" = some (some (.ref f161))) (i161 : PySem.W.isFn K (.ref f161) = true)
    (l161 : K.lookup f161 = some ⟨oc161, od161, .func (PySem.W.fnOf "node" "Diagrams.node" (defArgs (mtd 8 3)) (defBody (mtd 8 3)) (defScope (mtd 8 3)) .none kV161 dc161 pm161 an161 cd161 ct161), sl161⟩) (e161 : PySem.W.codeIn K cd161 "Diagrams.node" = true) (p161 : PySem.W.keepIn K (.ref f161) = true)
    (a162 : PySem.W.findIn K (.ref C1) "_combined" = some (some (.ref f162))) (i162 : PySem.W.isFn K (.ref f162) = true)
    (l162 : K.lookup f162 = some ⟨oc162, od162, .func (PySem.W.fnOf "_combined" "Diagrams._combined" (defArgs (mtd 8 4)) (defBody (mtd 8 4)) (defScope (mtd 8 4)) .none kV162 dc162 pm162 an162 cd162 ct162), sl162⟩) (e162 : PySem.W.codeIn K cd162 "Diagrams._combined" = true) (p162 : PySem.W.keepIn K (.ref f162) = true)
    (a163 : PySem.W.findIn K (.ref C1) "_split" = some (some (.ref f163))) (i163 : PySem.W.isFn K (.ref f163) = true)
    (l163 : K.lookup f163 = some ⟨oc163, od163, .func (PySem.W.fnOf "_split" "Diagrams._split" (defArgs (mtd 8 5)) (defBody (mtd 8 5)) (defScope (mtd 8 5)) .none kV163 dc163 pm163 an163 cd163 ct163), sl163⟩) (e163 : PySem.W.codeIn K cd163 "Diagrams._split" = true) (p163 : PySem.W.keepIn K (.ref f163) = true)
    (a164 : PySem.W.findIn K (.ref C1) "conjunction" = some (some (.ref f164))) (i164 : PySem.W.isFn K (.ref f164) = true)
    (l164 : K.lookup f164 = some ⟨oc164, od164, .func (PySem.W.fnOf "conjunction" "Diagrams.conjunction" (defArgs (mtd 8 6)) (defBody (mtd 8 6)) (defScope (mtd 8 6)) .none kV164 dc164 pm164 an164 cd164 ct164), sl164⟩) (e164 : PySem.W.codeIn K cd164 "Diagrams.conjunction" = true) (p164 : PySem.W.keepIn K (.ref f164) = true)
    (a165 : PySem.W.findIn K (.ref C1) "disjunction" = some (some (.ref f165))) (i165 : PySem.W.isFn K (.ref f165) = true)
    (l165 : K.lookup f165 = some ⟨oc165, od165, .func (PySem.W.fnOf "disjunction" "Diagrams.disjunction" (defArgs (mtd 8 7)) (defBody (mtd 8 7)) (defScope (mtd 8 7)) .none kV165 dc165 pm165 an165 cd165 ct165), sl165⟩) (e165 : PySem.W.codeIn K cd165 "Diagrams.disjunction" = true) (p165 : PySem.W.keepIn K (.ref f165) = true)
    (a166 : PySem.W.findIn K (.ref C1) "differs" = some (some (.ref f166))) (i166 : PySem.W.isFn K (.ref f166) = true)
    (l166 : K.lookup f166 = some ⟨oc166, od166, .func (PySem.W.fnOf "differs" "Diagrams.differs" (defArgs (mtd 8 8)) (defBody (mtd 8 8)) (defScope (mtd 8 8)) .none kV166 dc166 pm166 an166 cd166 ct166), sl166⟩) (e166 : PySem.W.codeIn K cd166 "Diagrams.differs" = true) (p166 : PySem.W.keepIn K (.ref f166) = true)
    (a167 : PySem.W.findIn K (.ref C1) "negation" = some (some (.ref f167))) (i167 : PySem.W.isFn K (.ref f167) = true)
    (l167 : K.lookup f167 = some ⟨oc167, od167, .func (PySem.W.fnOf "negation" "Diagrams.negation" (defArgs (mtd 8 9)) (defBody (mtd 8 9)) (defScope (mtd 8 9)) .none kV167 dc167 pm167 an167 cd167 ct167), sl167⟩) (e167 : PySem.W.codeIn K cd167 "Diagrams.negation" = true) (p167 : PySem.W.keepIn K (.ref f167) = true)
    (a170 : PySem.W.findIn K (.ref C1) "holds" = some (some (.ref f170))) (i170 : PySem.W.isFn K (.ref f170) = true)
    (l170 : K.lookup f170 = some ⟨oc170, od170, .func (PySem.W.fnOf "holds" "Diagrams.holds" (defArgs (mtd 8 12)) (defBody (mtd 8 12)) (defScope (mtd 8 12)) .none kV170 dc170 pm170 an170 cd170 ct170), sl170⟩) (e170 : PySem.W.codeIn K cd170 "Diagrams.holds" = true) (p170 : PySem.W.keepIn K (.ref f170) = true)
    (a171 : PySem.W.findIn K (.ref C1) "reached" = some (some (.ref f171))) (i171 : PySem.W.isFn K (.ref f171) = true)
    (l171 : K.lookup f171 = some ⟨oc171, od171, .func (PySem.W.fnOf "reached" "Diagrams.reached" (defArgs (mtd 8 13)) (defBody (mtd 8 13)) (defScope (mtd 8 13)) .none kV171 dc171 pm171 an171 cd171 ct171), sl171⟩) (e171 : PySem.W.codeIn K cd171 "Diagrams.reached" = true) (p171 : PySem.W.keepIn K (.ref f171) = true)
    (a172 : PySem.W.findIn K (.ref C1) "_parts" = some (some (.ref f172))) (i172 : PySem.W.isFn K (.ref f172) = true)
    (l172 : K.lookup f172 = some ⟨oc172, od172, .func (PySem.W.fnOf "_parts" "Diagrams._parts" (defArgs (mtd 8 14)) (defBody (mtd 8 14)) (defScope (mtd 8 14)) .none kV172 dc172 pm172 an172 cd172 ct172), sl172⟩) (e172 : PySem.W.codeIn K cd172 "Diagrams._parts" = true) (p172 : PySem.W.keepIn K (.ref f172) = true)
    (a173 : PySem.W.findIn K (.ref C1) "size" = some (some (.ref f173))) (i173 : PySem.W.isFn K (.ref f173) = true)
    (l173 : K.lookup f173 = some ⟨oc173, od173, .func (PySem.W.fnOf "size" "Diagrams.size" (defArgs (mtd 8 15)) (defBody (mtd 8 15)) (defScope (mtd 8 15)) .none kV173 dc173 pm173 an173 cd173 ct173), sl173⟩) (e173 : PySem.W.codeIn K cd173 "Diagrams.size" = true) (p173 : PySem.W.keepIn K (.ref f173) = true)
    (a180 : PySem.W.findIn K (.ref C1) "table" = some (some (.ref f180))) (i180 : PySem.W.isFn K (.ref f180) = true)
    (l180 : K.lookup f180 = some ⟨oc180, od180, .func (PySem.W.fnOf "table" "Diagrams.table" (defArgs (mtd 8 22)) (defBody (mtd 8 22)) (defScope (mtd 8 22)) .none kV180 dc180 pm180 an180 cd180 ct180), sl180⟩) (e180 : PySem.W.codeIn K cd180 "Diagrams.table" = true) (p180 : PySem.W.keepIn K (.ref f180) = true)
    (a500 : PySem.W.nsIn K mainGlobals "_law_draw" = some (some (.ref f500)))
    (l500 : K.lookup f500 = some ⟨oc500, od500, .func (PySem.W.fnOf "_law_draw" "_law_draw" (defArgs (top 10)) (defBody (top 10)) (defScope (top 10)) .none kV500 dc500 pm500 an500 cd500 ct500), sl500⟩) (e500 : PySem.W.codeIn K cd500 "_law_draw" = true) (p500 : PySem.W.keepIn K (.ref f500) = true)
    (a501 : PySem.W.nsIn K mainGlobals "_law_next" = some (some (.ref f501)))
    (l501 : K.lookup f501 = some ⟨oc501, od501, .func (PySem.W.fnOf "_law_next" "_law_next" (defArgs (top 11)) (defBody (top 11)) (defScope (top 11)) .none kV501 dc501 pm501 an501 cd501 ct501), sl501⟩) (e501 : PySem.W.codeIn K cd501 "_law_next" = true) (p501 : PySem.W.keepIn K (.ref f501) = true)
    (a507 : PySem.W.nsIn K mainGlobals "_law_same" = some (some (.ref f507)))
    (l507 : K.lookup f507 = some ⟨oc507, od507, .func (PySem.W.fnOf "_law_same" "_law_same" (defArgs (top 12)) (defBody (top 12)) (defScope (top 12)) .none kV507 dc507 pm507 an507 cd507 ct507), sl507⟩) (e507 : PySem.W.codeIn K cd507 "_law_same" = true) (p507 : PySem.W.keepIn K (.ref f507) = true)
    (a678 : PySem.W.nsIn K mainGlobals "_law_entries" = some (some (.ref f678)))
    (l678 : K.lookup f678 = some ⟨oc678, od678, .func (PySem.W.fnOf "_law_entries" "_law_entries" (defArgs (top 13)) (defBody (top 13)) (defScope (top 13)) .none kV678 dc678 pm678 an678 cd678 ct678), sl678⟩) (e678 : PySem.W.codeIn K cd678 "_law_entries" = true) (p678 : PySem.W.keepIn K (.ref f678) = true)
    (a679 : PySem.W.nsIn K mainGlobals "_law_tree" = some (some (.ref f679)))
    (l679 : K.lookup f679 = some ⟨oc679, od679, .func (PySem.W.fnOf "_law_tree" "_law_tree" (defArgs (top 14)) (defBody (top 14)) (defScope (top 14)) .none kV679 dc679 pm679 an679 cd679 ct679), sl679⟩) (e679 : PySem.W.codeIn K cd679 "_law_tree" = true) (p679 : PySem.W.keepIn K (.ref f679) = true)
    (a680 : PySem.W.nsIn K mainGlobals "_law_build" = some (some (.ref f680)))
    (l680 : K.lookup f680 = some ⟨oc680, od680, .func (PySem.W.fnOf "_law_build" "_law_build" (defArgs (top 15)) (defBody (top 15)) (defScope (top 15)) .none kV680 dc680 pm680 an680 cd680 ct680), sl680⟩) (e680 : PySem.W.codeIn K cd680 "_law_build" = true) (p680 : PySem.W.keepIn K (.ref f680) = true)
    (a681 : PySem.W.nsIn K mainGlobals "_law_true" = some (some (.ref f681)))
    (l681 : K.lookup f681 = some ⟨oc681, od681, .func (PySem.W.fnOf "_law_true" "_law_true" (defArgs (top 16)) (defBody (top 16)) (defScope (top 16)) .none kV681 dc681 pm681 an681 cd681 ct681), sl681⟩) (e681 : PySem.W.codeIn K cd681 "_law_true" = true) (p681 : PySem.W.keepIn K (.ref f681) = true)
    (a682 : PySem.W.nsIn K mainGlobals "_law_subsets" = some (some (.ref f682)))
    (l682 : K.lookup f682 = some ⟨oc682, od682, .func (PySem.W.fnOf "_law_subsets" "_law_subsets" (defArgs (top 17)) (defBody (top 17)) (defScope (top 17)) .none kV682 dc682 pm682 an682 cd682 ct682), sl682⟩) (e682 : PySem.W.codeIn K cd682 "_law_subsets" = true) (p682 : PySem.W.keepIn K (.ref f682) = true)
    (a683 : PySem.W.nsIn K mainGlobals "_law_truth" = some (some (.ref f683)))
    (l683 : K.lookup f683 = some ⟨oc683, od683, .func (PySem.W.fnOf "_law_truth" "_law_truth" (defArgs (top 18)) (defBody (top 18)) (defScope (top 18)) .none kV683 dc683 pm683 an683 cd683 ct683), sl683⟩) (e683 : PySem.W.codeIn K cd683 "_law_truth" = true) (p683 : PySem.W.keepIn K (.ref f683) = true)
    (a684 : PySem.W.nsIn K mainGlobals "_law_fixed" = some (some (.ref f684)))
    (l684 : K.lookup f684 = some ⟨oc684, od684, .func (PySem.W.fnOf "_law_fixed" "_law_fixed" (defArgs (top 19)) (defBody (top 19)) (defScope (top 19)) .none kV684 dc684 pm684 an684 cd684 ct684), sl684⟩) (e684 : PySem.W.codeIn K cd684 "_law_fixed" = true) (p684 : PySem.W.keepIn K (.ref f684) = true)
    (a685 : PySem.W.nsIn K mainGlobals "_law_top" = some (some (.ref f685)))
    (l685 : K.lookup f685 = some ⟨oc685, od685, .func (PySem.W.fnOf "_law_top" "_law_top" (defArgs (top 20)) (defBody (top 20)) (defScope (top 20)) .none kV685 dc685 pm685 an685 cd685 ct685), sl685⟩) (e685 : PySem.W.codeIn K cd685 "_law_top" = true) (p685 : PySem.W.keepIn K (.ref f685) = true)
    (a686 : PySem.W.nsIn K mainGlobals "_law_diagrams" = some (some (.ref f686)))
    (l686 : K.lookup f686 = some ⟨oc686, od686, .func (PySem.W.fnOf "_law_diagrams" "_law_diagrams" (defArgs (top 21)) (defBody (top 21)) (defScope (top 21)) .none kV686 dc686 pm686 an686 cd686 ct686), sl686⟩) (e686 : PySem.W.codeIn K cd686 "_law_diagrams" = true) (p686 : PySem.W.keepIn K (.ref f686) = true)
    (a0 : PySem.W.nsIn K mainGlobals "_law_listed" = some (some (.ref f0)))
    (l0 : K.lookup f0 = some ⟨oc0, od0, .func (PySem.W.fnOf "_law_listed" "_law_listed" (defArgs (top 22)) (defBody (top 22)) (defScope (top 22)) .none kV0 dc0 pm0 an0 cd0 ct0), sl0⟩) (e0 : PySem.W.codeIn K cd0 "_law_listed" = true) (p0 : PySem.W.keepIn K (.ref f0) = true)
    (a1 : PySem.W.nsIn K mainGlobals "_law_number" = some (some (.ref f1)))
    (l1 : K.lookup f1 = some ⟨oc1, od1, .func (PySem.W.fnOf "_law_number" "_law_number" (defArgs (top 23)) (defBody (top 23)) (defScope (top 23)) .none kV1 dc1 pm1 an1 cd1 ct1), sl1⟩) (e1 : PySem.W.codeIn K cd1 "_law_number" = true) (p1 : PySem.W.keepIn K (.ref f1) = true)
    (a2 : PySem.W.nsIn K mainGlobals "law" = some (some (.ref f2)))
    (l2 : K.lookup f2 = some ⟨oc2, od2, .func (PySem.W.fnOf "law" "law" (defArgs (top 24)) (defBody (top 24)) (defScope (top 24)) .none kV2 dc2 pm2 an2 cd2 ct2), sl2⟩) (e2 : PySem.W.codeIn K cd2 "law" = true) (p2 : PySem.W.keepIn K (.ref f2) = true)
    {tQ107 : Tok} (qQ107 : PySem.W.nsIn K mainGlobals "NEVER" = some (some (.int (0) tQ107)))
    {tQ108 : Tok} (qQ108 : PySem.W.nsIn K mainGlobals "ALWAYS" = some (some (.int (1) tQ108)))
    {aQ109 : Addr} {esQ109 : Array DictEntry} {nQ109 : Nat} {tQ109_0 tQ109_1 tQ109_2 : Tok} (qQ109 : PySem.W.nsIn K mainGlobals "LEAVES" = some (some (.ref aQ109))) (rQ109 : K.lookup aQ109 = some ⟨.type "dict", none, .dict esQ109 nQ109, #[]⟩) (sQ109 : PySem.W.KeysLit w.params esQ109.toList) (vQ109 : (aQ109 == sysModules) = false)
    (xQ109 : esQ109.toList.map (·.key) = [.str (PySem.Str.ofString "and") tQ109_0, .str (PySem.Str.ofString "or") tQ109_1, .str (PySem.Str.ofString "differ") tQ109_2]) (yQ109 : esQ109.toList.map (·.val) = [.ref f155, .ref f156, .ref f157])
    (z0 : PySem.W.nsIn K mainGlobals "len" = some none)
    (z1 : PySem.W.nsIn K mainGlobals "min" = some none)
    (z2 : PySem.W.nsIn K mainGlobals "max" = some none)
    (z3 : PySem.W.nsIn K mainGlobals "list" = some none)
    (z4 : PySem.W.nsIn K mainGlobals "abs" = some none)
    (z5 : PySem.W.nsIn K mainGlobals "int" = some none)
    (z6 : PySem.W.nsIn K mainGlobals "isinstance" = some none)
    (z7 : PySem.W.nsIn K mainGlobals "str" = some none)
    (z8 : PySem.W.nsIn K mainGlobals "tuple" = some none)
    (z9 : PySem.W.nsIn K mainGlobals "all" = some none)
    (z10 : PySem.W.nsIn K mainGlobals "bool" = some none)
    (z11 : PySem.W.nsIn K mainGlobals "range" = some none)
    (hlaw : ∀ ns : List Int, ns.length ≤ 63 → ∃ S', run G 200 2 [.d (.scr ns)] [] = .ok (.d (.bl true)) S') :
    ∃ fd : FuncData, (∀ (s : Shared) (v : Value), BindsTo s fd ⟨[v], []⟩ [("script", v)]) ∧ ∀ base : Heap, K.In base → base.Ns mainGlobals mg → FnOk l.prog w K mg base CX0 201 fa fd ["script"] (spLaw K) := by
  have e := hfa.symm.trans (PySem.W.mg_of X GN a2)
  cases e
  let W : Wd := { K := K, w := w, fa := fun n => (List.lookup n [(155, f155), (156, f156), (157, f157), (158, f158), (159, f159), (160, f160), (161, f161), (162, f162), (163, f163), (164, f164), (165, f165), (166, f166), (167, f167), (170, f170), (171, f171), (172, f172), (173, f173), (180, f180), (500, f500), (501, f501), (507, f507), (678, f678), (679, f679), (680, f680), (681, f681), (682, f682), (683, f683), (684, f684), (685, f685), (686, f686), (0, f0), (1, f1), (2, fa)]).getD 0, ca := fun n => (List.lookup n [(1, C1)]).getD 0, nm := nmOf NM }
  have F155 := fun_mk (st := (top 4)) l155 e155 p155
  have B155 := F155.binds (ps := ["first", "second"])  fun _ _ _ _ _ _ us hl => match us, hl with | [_, _], _ => rfl
  have F156 := fun_mk (st := (top 5)) l156 e156 p156
  have B156 := F156.binds (ps := ["first", "second"])  fun _ _ _ _ _ _ us hl => match us, hl with | [_, _], _ => rfl
  have F157 := fun_mk (st := (top 6)) l157 e157 p157
  have B157 := F157.binds (ps := ["first", "second"])  fun _ _ _ _ _ _ us hl => match us, hl with | [_, _], _ => rfl
  have F158 := fun_mk (st := (mtd 8 0)) l158 e158 p158
  have B158 := F158.binds (ps := ["self"])  fun _ _ _ _ _ _ us hl => match us, hl with | [_], _ => rfl
  have F159 := fun_mk (st := (mtd 8 1)) l159 e159 p159
  have B159 := F159.binds (ps := ["self", "entry", "without", "there"])  fun _ _ _ _ _ _ us hl => match us, hl with | [_, _, _, _], _ => rfl
  have F160 := fun_mk (st := (mtd 8 2)) l160 e160 p160
  have B160 := F160.binds (ps := ["self", "entry"])  fun _ _ _ _ _ _ us hl => match us, hl with | [_, _], _ => rfl
  have F161 := fun_mk (st := (mtd 8 3)) l161 e161 p161
  have B161 := F161.binds (ps := ["self", "condition"])  fun _ _ _ _ _ _ us hl => match us, hl with | [_, _], _ => rfl
  have F162 := fun_mk (st := (mtd 8 4)) l162 e162 p162
  have B162 := F162.binds (ps := ["self", "form", "first", "second"])  fun _ _ _ _ _ _ us hl => match us, hl with | [_, _, _, _], _ => rfl
  have F163 := fun_mk (st := (mtd 8 5)) l163 e163 p163
  have B163 := F163.binds (ps := ["self", "form", "first", "second"])  fun _ _ _ _ _ _ us hl => match us, hl with | [_, _, _, _], _ => rfl
  have F164 := fun_mk (st := (mtd 8 6)) l164 e164 p164
  have B164 := F164.binds (ps := ["self", "first", "second"])  fun _ _ _ _ _ _ us hl => match us, hl with | [_, _, _], _ => rfl
  have F165 := fun_mk (st := (mtd 8 7)) l165 e165 p165
  have B165 := F165.binds (ps := ["self", "first", "second"])  fun _ _ _ _ _ _ us hl => match us, hl with | [_, _, _], _ => rfl
  have F166 := fun_mk (st := (mtd 8 8)) l166 e166 p166
  have B166 := F166.binds (ps := ["self", "first", "second"])  fun _ _ _ _ _ _ us hl => match us, hl with | [_, _, _], _ => rfl
  have F167 := fun_mk (st := (mtd 8 9)) l167 e167 p167
  have B167 := F167.binds (ps := ["self", "condition"])  fun _ _ _ _ _ _ us hl => match us, hl with | [_, _], _ => rfl
  have F170 := fun_mk (st := (mtd 8 12)) l170 e170 p170
  have B170 := F170.binds (ps := ["self", "condition", "present"])  fun _ _ _ _ _ _ us hl => match us, hl with | [_, _, _], _ => rfl
  have F171 := fun_mk (st := (mtd 8 13)) l171 e171 p171
  have B171 := F171.binds (ps := ["self", "conditions"])  fun _ _ _ _ _ _ us hl => match us, hl with | [_, _], _ => rfl
  have F172 := fun_mk (st := (mtd 8 14)) l172 e172 p172
  have B172 := F172.binds (ps := ["self", "condition"])  fun _ _ _ _ _ _ us hl => match us, hl with | [_, _], _ => rfl
  have F173 := fun_mk (st := (mtd 8 15)) l173 e173 p173
  have B173 := F173.binds (ps := ["self", "conditions"])  fun _ _ _ _ _ _ us hl => match us, hl with | [_, _], _ => rfl
  have F180 := fun_mk (st := (mtd 8 22)) l180 e180 p180
  have B180 := F180.binds (ps := ["self", "condition"])  fun _ _ _ _ _ _ us hl => match us, hl with | [_, _], _ => rfl
  have F500 := fun_mk (st := (top 10)) l500 e500 p500
  have B500 := F500.binds (ps := ["script"])  fun _ _ _ _ _ _ us hl => match us, hl with | [_], _ => rfl
  have F501 := fun_mk (st := (top 11)) l501 e501 p501
  have B501 := F501.binds (ps := ["draw", "many"])  fun _ _ _ _ _ _ us hl => match us, hl with | [_, _], _ => rfl
  have F507 := fun_mk (st := (top 12)) l507 e507 p507
  have B507 := F507.binds (ps := ["actual", "due"])  fun _ _ _ _ _ _ us hl => match us, hl with | [_, _], _ => rfl
  have F678 := fun_mk (st := (top 13)) l678 e678 p678
  have B678 := F678.binds (ps := ["draw", "most"])  fun _ _ _ _ _ _ us hl => match us, hl with | [_, _], _ => rfl
  have F679 := fun_mk (st := (top 14)) l679 e679 p679
  have B679 := F679.binds (ps := ["draw", "entries", "depth"])  fun _ _ _ _ _ _ us hl => match us, hl with | [_, _, _], _ => rfl
  have F680 := fun_mk (st := (top 15)) l680 e680 p680
  have B680 := F680.binds (ps := ["store", "tree"])  fun _ _ _ _ _ _ us hl => match us, hl with | [_, _], _ => rfl
  have F681 := fun_mk (st := (top 16)) l681 e681 p681
  have B681 := F681.binds (ps := ["tree", "present"])  fun _ _ _ _ _ _ us hl => match us, hl with | [_, _], _ => rfl
  have F682 := fun_mk (st := (top 17)) l682 e682 p682
  have B682 := F682.binds (ps := ["entries"])  fun _ _ _ _ _ _ us hl => match us, hl with | [_], _ => rfl
  have F683 := fun_mk (st := (top 18)) l683 e683 p683
  have B683 := F683.binds (ps := ["tree", "entries"])  fun _ _ _ _ _ _ us hl => match us, hl with | [_, _], _ => rfl
  have F684 := fun_mk (st := (top 19)) l684 e684 p684
  have B684 := F684.binds (ps := ["truth", "k", "there"])  fun _ _ _ _ _ _ us hl => match us, hl with | [_, _, _], _ => rfl
  have F685 := fun_mk (st := (top 20)) l685 e685 p685
  have B685 := F685.binds (ps := ["truth", "count"])  fun _ _ _ _ _ _ us hl => match us, hl with | [_, _], _ => rfl
  have F686 := fun_mk (st := (top 21)) l686 e686 p686
  have B686 := F686.binds (ps := ["truths", "count"])  fun _ _ _ _ _ _ us hl => match us, hl with | [_, _], _ => rfl
  have F0 := fun_mk (st := (top 22)) l0 e0 p0
  have B0 := F0.binds (ps := ["truth", "entries", "known"])  fun _ _ _ _ _ _ us hl => match us, hl with | [_, _, _], _ => rfl
  have F1 := fun_mk (st := (top 23)) l1 e1 p1
  have B1 := F1.binds (ps := ["truth", "known"])  fun _ _ _ _ _ _ us hl => match us, hl with | [_, _], _ => rfl
  have F2 := fun_mk (st := (top 24)) l2 e2 p2
  have B2 := F2.binds (ps := ["script"])  fun _ _ _ _ _ _ us hl => match us, hl with | [_], _ => rfl
  have CL1 : Cls K C1 := ⟨pg1, hd1, po1, sa1⟩
  have gdo : ∀ (x : Str) (f : Nat), gd.lookup x = some f → mg x = some (.ref (W.fa f)) ∧ ∃ d, G.defs f = some d ∧ d.init = false :=
    lk_cons (R := fun x f => mg x = some (.ref (W.fa f)) ∧ ∃ d, G.defs f = some d ∧ d.init = false) (⟨PySem.W.mg_of X GN a155, _, rfl, rfl⟩) (lk_cons (R := fun x f => mg x = some (.ref (W.fa f)) ∧ ∃ d, G.defs f = some d ∧ d.init = false) (⟨PySem.W.mg_of X GN a156, _, rfl, rfl⟩) (lk_cons (R := fun x f => mg x = some (.ref (W.fa f)) ∧ ∃ d, G.defs f = some d ∧ d.init = false) (⟨PySem.W.mg_of X GN a157, _, rfl, rfl⟩) (lk_cons (R := fun x f => mg x = some (.ref (W.fa f)) ∧ ∃ d, G.defs f = some d ∧ d.init = false) (⟨PySem.W.mg_of X GN a500, _, rfl, rfl⟩) (lk_cons (R := fun x f => mg x = some (.ref (W.fa f)) ∧ ∃ d, G.defs f = some d ∧ d.init = false) (⟨PySem.W.mg_of X GN a501, _, rfl, rfl⟩) (lk_cons (R := fun x f => mg x = some (.ref (W.fa f)) ∧ ∃ d, G.defs f = some d ∧ d.init = false) (⟨PySem.W.mg_of X GN a507, _, rfl, rfl⟩) (lk_cons (R := fun x f => mg x = some (.ref (W.fa f)) ∧ ∃ d, G.defs f = some d ∧ d.init = false) (⟨PySem.W.mg_of X GN a678, _, rfl, rfl⟩) (lk_cons (R := fun x f => mg x = some (.ref (W.fa f)) ∧ ∃ d, G.defs f = some d ∧ d.init = false) (⟨PySem.W.mg_of X GN a679, _, rfl, rfl⟩) (lk_cons (R := fun x f => mg x = some (.ref (W.fa f)) ∧ ∃ d, G.defs f = some d ∧ d.init = false) (⟨PySem.W.mg_of X GN a680, _, rfl, rfl⟩) (lk_cons (R := fun x f => mg x = some (.ref (W.fa f)) ∧ ∃ d, G.defs f = some d ∧ d.init = false) (⟨PySem.W.mg_of X GN a681, _, rfl, rfl⟩) (lk_cons (R := fun x f => mg x = some (.ref (W.fa f)) ∧ ∃ d, G.defs f = some d ∧ d.init = false) (⟨PySem.W.mg_of X GN a682, _, rfl, rfl⟩) (lk_cons (R := fun x f => mg x = some (.ref (W.fa f)) ∧ ∃ d, G.defs f = some d ∧ d.init = false) (⟨PySem.W.mg_of X GN a683, _, rfl, rfl⟩) (lk_cons (R := fun x f => mg x = some (.ref (W.fa f)) ∧ ∃ d, G.defs f = some d ∧ d.init = false) (⟨PySem.W.mg_of X GN a684, _, rfl, rfl⟩) (lk_cons (R := fun x f => mg x = some (.ref (W.fa f)) ∧ ∃ d, G.defs f = some d ∧ d.init = false) (⟨PySem.W.mg_of X GN a685, _, rfl, rfl⟩) (lk_cons (R := fun x f => mg x = some (.ref (W.fa f)) ∧ ∃ d, G.defs f = some d ∧ d.init = false) (⟨PySem.W.mg_of X GN a686, _, rfl, rfl⟩) (lk_cons (R := fun x f => mg x = some (.ref (W.fa f)) ∧ ∃ d, G.defs f = some d ∧ d.init = false) (⟨PySem.W.mg_of X GN a0, _, rfl, rfl⟩) (lk_cons (R := fun x f => mg x = some (.ref (W.fa f)) ∧ ∃ d, G.defs f = some d ∧ d.init = false) (⟨PySem.W.mg_of X GN a1, _, rfl, rfl⟩) (lk_cons (R := fun x f => mg x = some (.ref (W.fa f)) ∧ ∃ d, G.defs f = some d ∧ d.init = false) (⟨PySem.W.mg_of X GN a2, _, rfl, rfl⟩) (lk_nil))))))))))))))))))
  have gbo : ∀ x : Str, x ∈ gb → mg x = none :=
    gb_cons (PySem.W.mg_none_of X GN z0) (gb_cons (PySem.W.mg_none_of X GN z1) (gb_cons (PySem.W.mg_none_of X GN z2) (gb_cons (PySem.W.mg_none_of X GN z3) (gb_cons (PySem.W.mg_none_of X GN z4) (gb_cons (PySem.W.mg_none_of X GN z5) (gb_cons (PySem.W.mg_none_of X GN z6) (gb_cons (PySem.W.mg_none_of X GN z7) (gb_cons (PySem.W.mg_none_of X GN z8) (gb_cons (PySem.W.mg_none_of X GN z9) (gb_cons (PySem.W.mg_none_of X GN z10) (gb_cons (PySem.W.mg_none_of X GN z11) (gb_nil))))))))))))
  have gco : ∀ (x : Str) (g : Nat), gc.lookup x = some g → ∃ v u, mg x = some u ∧ RelV v u ∧ ∀ F, Rp W F (G.con g) v :=
    gc_cons (⟨.int (0), _, PySem.W.mg_of X GN qQ107, ⟨_, rfl⟩, fun _ => rfl⟩) (gc_cons (⟨.int (1), _, PySem.W.mg_of X GN qQ108, ⟨_, rfl⟩, fun _ => rfl⟩) (gc_cons (⟨.ref aQ109, _, PySem.W.mg_of X GN qQ109, rfl, fun _ => ⟨aQ109, [.ref f155, .ref f156, .ref f157], rfl, wd_mk (W := W) rQ109 sQ109 vQ109 (.cons (z := [97, 110, 100]) (.cons (z := [111, 114]) (.cons (z := [100, 105, 102, 102, 101, 114]) KeysR.nil))) (.cons (show RelV (.ref f155) _ from rfl) (.cons (show RelV (.ref f156) _ from rfl) (.cons (show RelV (.ref f157) _ from rfl) .nil))) xQ109 yQ109, ⟨_, _, rfl, rfl, ⟨_, _, rfl, rfl, ⟨_, _, rfl, rfl, rfl⟩⟩⟩⟩⟩) (gc_nil)))
  have gfo : ∀ (f : Str) (q : Nat × List Nat), gf.lookup f = some q → FldOk K W f q.1 q.2 :=
    lk_cons (R := fun f (q : Nat × List Nat) => FldOk K W f q.1 q.2) (⟨rfl, nmOf_inj nmI, mk_cons (R := fun c => Cls K (W.ca c) ∧ NoAttr K (W.ca c) _) (⟨CL1, n1_3⟩) (mk_nil)⟩) (lk_cons (R := fun f (q : Nat × List Nat) => FldOk K W f q.1 q.2) (⟨rfl, nmOf_inj nmI, mk_cons (R := fun c => Cls K (W.ca c) ∧ NoAttr K (W.ca c) _) (⟨CL1, n1_4⟩) (mk_nil)⟩) (lk_cons (R := fun f (q : Nat × List Nat) => FldOk K W f q.1 q.2) (⟨rfl, nmOf_inj nmI, mk_cons (R := fun c => Cls K (W.ca c) ∧ NoAttr K (W.ca c) _) (⟨CL1, n1_5⟩) (mk_nil)⟩) (lk_nil)))
  have gmo : ∀ (m : Str) (tab : List (Nat × Nat)), gm.lookup m = some tab → (∀ j, W.nm j ≠ m) ∧ ∀ p ∈ tab, Cls K (W.ca p.1) ∧ Meth K (W.ca p.1) m (W.fa p.2) ∧ ∃ d, G.defs p.2 = some d ∧ d.init = false :=
    lk_cons (R := fun m (tab : List (Nat × Nat)) => (∀ j, W.nm j ≠ m) ∧ ∀ p ∈ tab, Cls K (W.ca p.1) ∧ Meth K (W.ca p.1) m (W.fa p.2) ∧ ∃ d, G.defs p.2 = some d ∧ d.init = false) (⟨nmOf_ne (by decide +kernel), mk_cons (R := fun p : Nat × Nat => Cls K (W.ca p.1) ∧ Meth K (W.ca p.1) _ (W.fa p.2) ∧ ∃ d, G.defs p.2 = some d ∧ d.init = false) (⟨CL1, ⟨a159, i159, p159⟩, _, rfl, rfl⟩) (mk_nil)⟩) (lk_cons (R := fun m (tab : List (Nat × Nat)) => (∀ j, W.nm j ≠ m) ∧ ∀ p ∈ tab, Cls K (W.ca p.1) ∧ Meth K (W.ca p.1) m (W.fa p.2) ∧ ∃ d, G.defs p.2 = some d ∧ d.init = false) (⟨nmOf_ne (by decide +kernel), mk_cons (R := fun p : Nat × Nat => Cls K (W.ca p.1) ∧ Meth K (W.ca p.1) _ (W.fa p.2) ∧ ∃ d, G.defs p.2 = some d ∧ d.init = false) (⟨CL1, ⟨a160, i160, p160⟩, _, rfl, rfl⟩) (mk_nil)⟩) (lk_cons (R := fun m (tab : List (Nat × Nat)) => (∀ j, W.nm j ≠ m) ∧ ∀ p ∈ tab, Cls K (W.ca p.1) ∧ Meth K (W.ca p.1) m (W.fa p.2) ∧ ∃ d, G.defs p.2 = some d ∧ d.init = false) (⟨nmOf_ne (by decide +kernel), mk_cons (R := fun p : Nat × Nat => Cls K (W.ca p.1) ∧ Meth K (W.ca p.1) _ (W.fa p.2) ∧ ∃ d, G.defs p.2 = some d ∧ d.init = false) (⟨CL1, ⟨a161, i161, p161⟩, _, rfl, rfl⟩) (mk_nil)⟩) (lk_cons (R := fun m (tab : List (Nat × Nat)) => (∀ j, W.nm j ≠ m) ∧ ∀ p ∈ tab, Cls K (W.ca p.1) ∧ Meth K (W.ca p.1) m (W.fa p.2) ∧ ∃ d, G.defs p.2 = some d ∧ d.init = false) (⟨nmOf_ne (by decide +kernel), mk_cons (R := fun p : Nat × Nat => Cls K (W.ca p.1) ∧ Meth K (W.ca p.1) _ (W.fa p.2) ∧ ∃ d, G.defs p.2 = some d ∧ d.init = false) (⟨CL1, ⟨a162, i162, p162⟩, _, rfl, rfl⟩) (mk_nil)⟩) (lk_cons (R := fun m (tab : List (Nat × Nat)) => (∀ j, W.nm j ≠ m) ∧ ∀ p ∈ tab, Cls K (W.ca p.1) ∧ Meth K (W.ca p.1) m (W.fa p.2) ∧ ∃ d, G.defs p.2 = some d ∧ d.init = false) (⟨nmOf_ne (by decide +kernel), mk_cons (R := fun p : Nat × Nat => Cls K (W.ca p.1) ∧ Meth K (W.ca p.1) _ (W.fa p.2) ∧ ∃ d, G.defs p.2 = some d ∧ d.init = false) (⟨CL1, ⟨a163, i163, p163⟩, _, rfl, rfl⟩) (mk_nil)⟩) (lk_cons (R := fun m (tab : List (Nat × Nat)) => (∀ j, W.nm j ≠ m) ∧ ∀ p ∈ tab, Cls K (W.ca p.1) ∧ Meth K (W.ca p.1) m (W.fa p.2) ∧ ∃ d, G.defs p.2 = some d ∧ d.init = false) (⟨nmOf_ne (by decide +kernel), mk_cons (R := fun p : Nat × Nat => Cls K (W.ca p.1) ∧ Meth K (W.ca p.1) _ (W.fa p.2) ∧ ∃ d, G.defs p.2 = some d ∧ d.init = false) (⟨CL1, ⟨a164, i164, p164⟩, _, rfl, rfl⟩) (mk_nil)⟩) (lk_cons (R := fun m (tab : List (Nat × Nat)) => (∀ j, W.nm j ≠ m) ∧ ∀ p ∈ tab, Cls K (W.ca p.1) ∧ Meth K (W.ca p.1) m (W.fa p.2) ∧ ∃ d, G.defs p.2 = some d ∧ d.init = false) (⟨nmOf_ne (by decide +kernel), mk_cons (R := fun p : Nat × Nat => Cls K (W.ca p.1) ∧ Meth K (W.ca p.1) _ (W.fa p.2) ∧ ∃ d, G.defs p.2 = some d ∧ d.init = false) (⟨CL1, ⟨a165, i165, p165⟩, _, rfl, rfl⟩) (mk_nil)⟩) (lk_cons (R := fun m (tab : List (Nat × Nat)) => (∀ j, W.nm j ≠ m) ∧ ∀ p ∈ tab, Cls K (W.ca p.1) ∧ Meth K (W.ca p.1) m (W.fa p.2) ∧ ∃ d, G.defs p.2 = some d ∧ d.init = false) (⟨nmOf_ne (by decide +kernel), mk_cons (R := fun p : Nat × Nat => Cls K (W.ca p.1) ∧ Meth K (W.ca p.1) _ (W.fa p.2) ∧ ∃ d, G.defs p.2 = some d ∧ d.init = false) (⟨CL1, ⟨a166, i166, p166⟩, _, rfl, rfl⟩) (mk_nil)⟩) (lk_cons (R := fun m (tab : List (Nat × Nat)) => (∀ j, W.nm j ≠ m) ∧ ∀ p ∈ tab, Cls K (W.ca p.1) ∧ Meth K (W.ca p.1) m (W.fa p.2) ∧ ∃ d, G.defs p.2 = some d ∧ d.init = false) (⟨nmOf_ne (by decide +kernel), mk_cons (R := fun p : Nat × Nat => Cls K (W.ca p.1) ∧ Meth K (W.ca p.1) _ (W.fa p.2) ∧ ∃ d, G.defs p.2 = some d ∧ d.init = false) (⟨CL1, ⟨a167, i167, p167⟩, _, rfl, rfl⟩) (mk_nil)⟩) (lk_cons (R := fun m (tab : List (Nat × Nat)) => (∀ j, W.nm j ≠ m) ∧ ∀ p ∈ tab, Cls K (W.ca p.1) ∧ Meth K (W.ca p.1) m (W.fa p.2) ∧ ∃ d, G.defs p.2 = some d ∧ d.init = false) (⟨nmOf_ne (by decide +kernel), mk_cons (R := fun p : Nat × Nat => Cls K (W.ca p.1) ∧ Meth K (W.ca p.1) _ (W.fa p.2) ∧ ∃ d, G.defs p.2 = some d ∧ d.init = false) (⟨CL1, ⟨a170, i170, p170⟩, _, rfl, rfl⟩) (mk_nil)⟩) (lk_cons (R := fun m (tab : List (Nat × Nat)) => (∀ j, W.nm j ≠ m) ∧ ∀ p ∈ tab, Cls K (W.ca p.1) ∧ Meth K (W.ca p.1) m (W.fa p.2) ∧ ∃ d, G.defs p.2 = some d ∧ d.init = false) (⟨nmOf_ne (by decide +kernel), mk_cons (R := fun p : Nat × Nat => Cls K (W.ca p.1) ∧ Meth K (W.ca p.1) _ (W.fa p.2) ∧ ∃ d, G.defs p.2 = some d ∧ d.init = false) (⟨CL1, ⟨a171, i171, p171⟩, _, rfl, rfl⟩) (mk_nil)⟩) (lk_cons (R := fun m (tab : List (Nat × Nat)) => (∀ j, W.nm j ≠ m) ∧ ∀ p ∈ tab, Cls K (W.ca p.1) ∧ Meth K (W.ca p.1) m (W.fa p.2) ∧ ∃ d, G.defs p.2 = some d ∧ d.init = false) (⟨nmOf_ne (by decide +kernel), mk_cons (R := fun p : Nat × Nat => Cls K (W.ca p.1) ∧ Meth K (W.ca p.1) _ (W.fa p.2) ∧ ∃ d, G.defs p.2 = some d ∧ d.init = false) (⟨CL1, ⟨a172, i172, p172⟩, _, rfl, rfl⟩) (mk_nil)⟩) (lk_cons (R := fun m (tab : List (Nat × Nat)) => (∀ j, W.nm j ≠ m) ∧ ∀ p ∈ tab, Cls K (W.ca p.1) ∧ Meth K (W.ca p.1) m (W.fa p.2) ∧ ∃ d, G.defs p.2 = some d ∧ d.init = false) (⟨nmOf_ne (by decide +kernel), mk_cons (R := fun p : Nat × Nat => Cls K (W.ca p.1) ∧ Meth K (W.ca p.1) _ (W.fa p.2) ∧ ∃ d, G.defs p.2 = some d ∧ d.init = false) (⟨CL1, ⟨a173, i173, p173⟩, _, rfl, rfl⟩) (mk_nil)⟩) (lk_cons (R := fun m (tab : List (Nat × Nat)) => (∀ j, W.nm j ≠ m) ∧ ∀ p ∈ tab, Cls K (W.ca p.1) ∧ Meth K (W.ca p.1) m (W.fa p.2) ∧ ∃ d, G.defs p.2 = some d ∧ d.init = false) (⟨nmOf_ne (by decide +kernel), mk_cons (R := fun p : Nat × Nat => Cls K (W.ca p.1) ∧ Meth K (W.ca p.1) _ (W.fa p.2) ∧ ∃ d, G.defs p.2 = some d ∧ d.init = false) (⟨CL1, ⟨a180, i180, p180⟩, _, rfl, rfl⟩) (mk_nil)⟩) (lk_nil))))))))))))))
  have gko : ∀ (x : Str) (q : Nat × Nat), gk.lookup x = some q → Mk K (W.ca q.1) (W.fa q.2) ∧ mg x = some (.ref (W.ca q.1)) ∧ ∃ d, G.defs q.2 = some d ∧ d.init = true :=
    lk_cons (R := fun x (q : Nat × Nat) => Mk K (W.ca q.1) (W.fa q.2) ∧ mg x = some (.ref (W.ca q.1)) ∧ ∃ d, G.defs q.2 = some d ∧ d.init = true) (⟨⟨mk1, a158, i158, kc1⟩, PySem.W.mg_of X GN aC1, _, rfl, rfl⟩) (lk_nil)
  have M155 : ModOk K mg W G c155 := ⟨gbo, gdo, gco, fun f i cs h => gfo f (i, cs) h, gmo, fun x c f h => gko x (c, f) h⟩
  have D155 : DefOk K mg W G 155 d155 c155 60 _ _ _ _ _ := ⟨F155, s155, rfl, rfl, k155, rfl, rfl, B155⟩
  have M156 : ModOk K mg W G c156 := ⟨gbo, gdo, gco, fun f i cs h => gfo f (i, cs) h, gmo, fun x c f h => gko x (c, f) h⟩
  have D156 : DefOk K mg W G 156 d156 c156 60 _ _ _ _ _ := ⟨F156, s156, rfl, rfl, k156, rfl, rfl, B156⟩
  have M157 : ModOk K mg W G c157 := ⟨gbo, gdo, gco, fun f i cs h => gfo f (i, cs) h, gmo, fun x c f h => gko x (c, f) h⟩
  have D157 : DefOk K mg W G 157 d157 c157 60 _ _ _ _ _ := ⟨F157, s157, rfl, rfl, k157, rfl, rfl, B157⟩
  have M158 : ModOk K mg W G c158 := ⟨gbo, gdo, gco, fun f i cs h => gfo f (i, cs) h, gmo, fun x c f h => gko x (c, f) h⟩
  have D158 : DefOk K mg W G 158 d158 c158 60 _ _ _ _ _ := ⟨F158, s158, rfl, rfl, k158, rfl, rfl, B158⟩
  have M159 : ModOk K mg W G c159 := ⟨gbo, gdo, gco, fun f i cs h => gfo f (i, cs) h, gmo, fun x c f h => gko x (c, f) h⟩
  have D159 : DefOk K mg W G 159 d159 c159 60 _ _ _ _ _ := ⟨F159, s159, rfl, rfl, k159, rfl, rfl, B159⟩
  have M160 : ModOk K mg W G c160 := ⟨gbo, gdo, gco, fun f i cs h => gfo f (i, cs) h, gmo, fun x c f h => gko x (c, f) h⟩
  have D160 : DefOk K mg W G 160 d160 c160 60 _ _ _ _ _ := ⟨F160, s160, rfl, rfl, k160, rfl, rfl, B160⟩
  have M161 : ModOk K mg W G c161 := ⟨gbo, gdo, gco, fun f i cs h => gfo f (i, cs) h, gmo, fun x c f h => gko x (c, f) h⟩
  have D161 : DefOk K mg W G 161 d161 c161 60 _ _ _ _ _ := ⟨F161, s161, rfl, rfl, k161, rfl, rfl, B161⟩
  have M162 : ModOk K mg W G c162 := ⟨gbo, gdo, gco, fun f i cs h => gfo f (i, cs) h, gmo, fun x c f h => gko x (c, f) h⟩
  have D162 : DefOk K mg W G 162 d162 c162 60 _ _ _ _ _ := ⟨F162, s162, rfl, rfl, k162, rfl, rfl, B162⟩
  have M163 : ModOk K mg W G c163 := ⟨gbo, gdo, gco, fun f i cs h => gfo f (i, cs) h, gmo, fun x c f h => gko x (c, f) h⟩
  have D163 : DefOk K mg W G 163 d163 c163 60 _ _ _ _ _ := ⟨F163, s163, rfl, rfl, k163, rfl, rfl, B163⟩
  have M164 : ModOk K mg W G c164 := ⟨gbo, gdo, gco, fun f i cs h => gfo f (i, cs) h, gmo, fun x c f h => gko x (c, f) h⟩
  have D164 : DefOk K mg W G 164 d164 c164 60 _ _ _ _ _ := ⟨F164, s164, rfl, rfl, k164, rfl, rfl, B164⟩
  have M165 : ModOk K mg W G c165 := ⟨gbo, gdo, gco, fun f i cs h => gfo f (i, cs) h, gmo, fun x c f h => gko x (c, f) h⟩
  have D165 : DefOk K mg W G 165 d165 c165 60 _ _ _ _ _ := ⟨F165, s165, rfl, rfl, k165, rfl, rfl, B165⟩
  have M166 : ModOk K mg W G c166 := ⟨gbo, gdo, gco, fun f i cs h => gfo f (i, cs) h, gmo, fun x c f h => gko x (c, f) h⟩
  have D166 : DefOk K mg W G 166 d166 c166 60 _ _ _ _ _ := ⟨F166, s166, rfl, rfl, k166, rfl, rfl, B166⟩
  have M167 : ModOk K mg W G c167 := ⟨gbo, gdo, gco, fun f i cs h => gfo f (i, cs) h, gmo, fun x c f h => gko x (c, f) h⟩
  have D167 : DefOk K mg W G 167 d167 c167 60 _ _ _ _ _ := ⟨F167, s167, rfl, rfl, k167, rfl, rfl, B167⟩
  have M170 : ModOk K mg W G c170 := ⟨gbo, gdo, gco, fun f i cs h => gfo f (i, cs) h, gmo, fun x c f h => gko x (c, f) h⟩
  have D170 : DefOk K mg W G 170 d170 c170 60 _ _ _ _ _ := ⟨F170, s170, rfl, rfl, k170, rfl, rfl, B170⟩
  have M171 : ModOk K mg W G c171 := ⟨gbo, gdo, gco, fun f i cs h => gfo f (i, cs) h, gmo, fun x c f h => gko x (c, f) h⟩
  have D171 : DefOk K mg W G 171 d171 c171 60 _ _ _ _ _ := ⟨F171, s171, rfl, rfl, k171, rfl, rfl, B171⟩
  have M172 : ModOk K mg W G c172 := ⟨gbo, gdo, gco, fun f i cs h => gfo f (i, cs) h, gmo, fun x c f h => gko x (c, f) h⟩
  have D172 : DefOk K mg W G 172 d172 c172 60 _ _ _ _ _ := ⟨F172, s172, rfl, rfl, k172, rfl, rfl, B172⟩
  have M173 : ModOk K mg W G c173 := ⟨gbo, gdo, gco, fun f i cs h => gfo f (i, cs) h, gmo, fun x c f h => gko x (c, f) h⟩
  have D173 : DefOk K mg W G 173 d173 c173 60 _ _ _ _ _ := ⟨F173, s173, rfl, rfl, k173, rfl, rfl, B173⟩
  have M180 : ModOk K mg W G c180 := ⟨gbo, gdo, gco, fun f i cs h => gfo f (i, cs) h, gmo, fun x c f h => gko x (c, f) h⟩
  have D180 : DefOk K mg W G 180 d180 c180 60 _ _ _ _ _ := ⟨F180, s180, rfl, rfl, k180, rfl, rfl, B180⟩
  have M500 : ModOk K mg W G c500 := ⟨gbo, gdo, gco, fun f i cs h => gfo f (i, cs) h, gmo, fun x c f h => gko x (c, f) h⟩
  have D500 : DefOk K mg W G 500 d500 c500 60 _ _ _ _ _ := ⟨F500, s500, rfl, rfl, k500, rfl, rfl, B500⟩
  have M501 : ModOk K mg W G c501 := ⟨gbo, gdo, gco, fun f i cs h => gfo f (i, cs) h, gmo, fun x c f h => gko x (c, f) h⟩
  have D501 : DefOk K mg W G 501 d501 c501 60 _ _ _ _ _ := ⟨F501, s501, rfl, rfl, k501, rfl, rfl, B501⟩
  have M507 : ModOk K mg W G c507 := ⟨gbo, gdo, gco, fun f i cs h => gfo f (i, cs) h, gmo, fun x c f h => gko x (c, f) h⟩
  have D507 : DefOk K mg W G 507 d507 c507 60 _ _ _ _ _ := ⟨F507, s507, rfl, rfl, k507, rfl, rfl, B507⟩
  have M678 : ModOk K mg W G c678 := ⟨gbo, gdo, gco, fun f i cs h => gfo f (i, cs) h, gmo, fun x c f h => gko x (c, f) h⟩
  have D678 : DefOk K mg W G 678 d678 c678 60 _ _ _ _ _ := ⟨F678, s678, rfl, rfl, k678, rfl, rfl, B678⟩
  have M679 : ModOk K mg W G c679 := ⟨gbo, gdo, gco, fun f i cs h => gfo f (i, cs) h, gmo, fun x c f h => gko x (c, f) h⟩
  have D679 : DefOk K mg W G 679 d679 c679 60 _ _ _ _ _ := ⟨F679, s679, rfl, rfl, k679, rfl, rfl, B679⟩
  have M680 : ModOk K mg W G c680 := ⟨gbo, gdo, gco, fun f i cs h => gfo f (i, cs) h, gmo, fun x c f h => gko x (c, f) h⟩
  have D680 : DefOk K mg W G 680 d680 c680 60 _ _ _ _ _ := ⟨F680, s680, rfl, rfl, k680, rfl, rfl, B680⟩
  have M681 : ModOk K mg W G c681 := ⟨gbo, gdo, gco, fun f i cs h => gfo f (i, cs) h, gmo, fun x c f h => gko x (c, f) h⟩
  have D681 : DefOk K mg W G 681 d681 c681 60 _ _ _ _ _ := ⟨F681, s681, rfl, rfl, k681, rfl, rfl, B681⟩
  have M682 : ModOk K mg W G c682 := ⟨gbo, gdo, gco, fun f i cs h => gfo f (i, cs) h, gmo, fun x c f h => gko x (c, f) h⟩
  have D682 : DefOk K mg W G 682 d682 c682 60 _ _ _ _ _ := ⟨F682, s682, rfl, rfl, k682, rfl, rfl, B682⟩
  have M683 : ModOk K mg W G c683 := ⟨gbo, gdo, gco, fun f i cs h => gfo f (i, cs) h, gmo, fun x c f h => gko x (c, f) h⟩
  have D683 : DefOk K mg W G 683 d683 c683 60 _ _ _ _ _ := ⟨F683, s683, rfl, rfl, k683, rfl, rfl, B683⟩
  have M684 : ModOk K mg W G c684 := ⟨gbo, gdo, gco, fun f i cs h => gfo f (i, cs) h, gmo, fun x c f h => gko x (c, f) h⟩
  have D684 : DefOk K mg W G 684 d684 c684 60 _ _ _ _ _ := ⟨F684, s684, rfl, rfl, k684, rfl, rfl, B684⟩
  have M685 : ModOk K mg W G c685 := ⟨gbo, gdo, gco, fun f i cs h => gfo f (i, cs) h, gmo, fun x c f h => gko x (c, f) h⟩
  have D685 : DefOk K mg W G 685 d685 c685 60 _ _ _ _ _ := ⟨F685, s685, rfl, rfl, k685, rfl, rfl, B685⟩
  have M686 : ModOk K mg W G c686 := ⟨gbo, gdo, gco, fun f i cs h => gfo f (i, cs) h, gmo, fun x c f h => gko x (c, f) h⟩
  have D686 : DefOk K mg W G 686 d686 c686 60 _ _ _ _ _ := ⟨F686, s686, rfl, rfl, k686, rfl, rfl, B686⟩
  have M0 : ModOk K mg W G c0 := ⟨gbo, gdo, gco, fun f i cs h => gfo f (i, cs) h, gmo, fun x c f h => gko x (c, f) h⟩
  have D0 : DefOk K mg W G 0 d0 c0 60 _ _ _ _ _ := ⟨F0, s0, rfl, rfl, k0, rfl, rfl, B0⟩
  have M1 : ModOk K mg W G c1 := ⟨gbo, gdo, gco, fun f i cs h => gfo f (i, cs) h, gmo, fun x c f h => gko x (c, f) h⟩
  have D1 : DefOk K mg W G 1 d1 c1 60 _ _ _ _ _ := ⟨F1, s1, rfl, rfl, k1, rfl, rfl, B1⟩
  have M2 : ModOk K mg W G c2 := ⟨gbo, gdo, gco, fun f i cs h => gfo f (i, cs) h, gmo, fun x c f h => gko x (c, f) h⟩
  have D2 : DefOk K mg W G 2 d2 c2 60 _ _ _ _ _ := ⟨F2, s2, rfl, rfl, k2, rfl, rfl, B2⟩
  have hd : ∀ f d, G.defs f = some d → ∃ C n x q st fd ps, DefOk K mg W G f d C n x q st fd ps ∧ ModOk K mg W G C :=
    nk_cons (R := fun f d => ∃ C n x q st fd ps, DefOk K mg W G f d C n x q st fd ps ∧ ModOk K mg W G C) (⟨_, _, _, _, _, _, _, D155, M155⟩) (nk_cons (R := fun f d => ∃ C n x q st fd ps, DefOk K mg W G f d C n x q st fd ps ∧ ModOk K mg W G C) (⟨_, _, _, _, _, _, _, D156, M156⟩) (nk_cons (R := fun f d => ∃ C n x q st fd ps, DefOk K mg W G f d C n x q st fd ps ∧ ModOk K mg W G C) (⟨_, _, _, _, _, _, _, D157, M157⟩) (nk_cons (R := fun f d => ∃ C n x q st fd ps, DefOk K mg W G f d C n x q st fd ps ∧ ModOk K mg W G C) (⟨_, _, _, _, _, _, _, D158, M158⟩) (nk_cons (R := fun f d => ∃ C n x q st fd ps, DefOk K mg W G f d C n x q st fd ps ∧ ModOk K mg W G C) (⟨_, _, _, _, _, _, _, D159, M159⟩) (nk_cons (R := fun f d => ∃ C n x q st fd ps, DefOk K mg W G f d C n x q st fd ps ∧ ModOk K mg W G C) (⟨_, _, _, _, _, _, _, D160, M160⟩) (nk_cons (R := fun f d => ∃ C n x q st fd ps, DefOk K mg W G f d C n x q st fd ps ∧ ModOk K mg W G C) (⟨_, _, _, _, _, _, _, D161, M161⟩) (nk_cons (R := fun f d => ∃ C n x q st fd ps, DefOk K mg W G f d C n x q st fd ps ∧ ModOk K mg W G C) (⟨_, _, _, _, _, _, _, D162, M162⟩) (nk_cons (R := fun f d => ∃ C n x q st fd ps, DefOk K mg W G f d C n x q st fd ps ∧ ModOk K mg W G C) (⟨_, _, _, _, _, _, _, D163, M163⟩) (nk_cons (R := fun f d => ∃ C n x q st fd ps, DefOk K mg W G f d C n x q st fd ps ∧ ModOk K mg W G C) (⟨_, _, _, _, _, _, _, D164, M164⟩) (nk_cons (R := fun f d => ∃ C n x q st fd ps, DefOk K mg W G f d C n x q st fd ps ∧ ModOk K mg W G C) (⟨_, _, _, _, _, _, _, D165, M165⟩) (nk_cons (R := fun f d => ∃ C n x q st fd ps, DefOk K mg W G f d C n x q st fd ps ∧ ModOk K mg W G C) (⟨_, _, _, _, _, _, _, D166, M166⟩) (nk_cons (R := fun f d => ∃ C n x q st fd ps, DefOk K mg W G f d C n x q st fd ps ∧ ModOk K mg W G C) (⟨_, _, _, _, _, _, _, D167, M167⟩) (nk_cons (R := fun f d => ∃ C n x q st fd ps, DefOk K mg W G f d C n x q st fd ps ∧ ModOk K mg W G C) (⟨_, _, _, _, _, _, _, D170, M170⟩) (nk_cons (R := fun f d => ∃ C n x q st fd ps, DefOk K mg W G f d C n x q st fd ps ∧ ModOk K mg W G C) (⟨_, _, _, _, _, _, _, D171, M171⟩) (nk_cons (R := fun f d => ∃ C n x q st fd ps, DefOk K mg W G f d C n x q st fd ps ∧ ModOk K mg W G C) (⟨_, _, _, _, _, _, _, D172, M172⟩) (nk_cons (R := fun f d => ∃ C n x q st fd ps, DefOk K mg W G f d C n x q st fd ps ∧ ModOk K mg W G C) (⟨_, _, _, _, _, _, _, D173, M173⟩) (nk_cons (R := fun f d => ∃ C n x q st fd ps, DefOk K mg W G f d C n x q st fd ps ∧ ModOk K mg W G C) (⟨_, _, _, _, _, _, _, D180, M180⟩) (nk_cons (R := fun f d => ∃ C n x q st fd ps, DefOk K mg W G f d C n x q st fd ps ∧ ModOk K mg W G C) (⟨_, _, _, _, _, _, _, D500, M500⟩) (nk_cons (R := fun f d => ∃ C n x q st fd ps, DefOk K mg W G f d C n x q st fd ps ∧ ModOk K mg W G C) (⟨_, _, _, _, _, _, _, D501, M501⟩) (nk_cons (R := fun f d => ∃ C n x q st fd ps, DefOk K mg W G f d C n x q st fd ps ∧ ModOk K mg W G C) (⟨_, _, _, _, _, _, _, D507, M507⟩) (nk_cons (R := fun f d => ∃ C n x q st fd ps, DefOk K mg W G f d C n x q st fd ps ∧ ModOk K mg W G C) (⟨_, _, _, _, _, _, _, D678, M678⟩) (nk_cons (R := fun f d => ∃ C n x q st fd ps, DefOk K mg W G f d C n x q st fd ps ∧ ModOk K mg W G C) (⟨_, _, _, _, _, _, _, D679, M679⟩) (nk_cons (R := fun f d => ∃ C n x q st fd ps, DefOk K mg W G f d C n x q st fd ps ∧ ModOk K mg W G C) (⟨_, _, _, _, _, _, _, D680, M680⟩) (nk_cons (R := fun f d => ∃ C n x q st fd ps, DefOk K mg W G f d C n x q st fd ps ∧ ModOk K mg W G C) (⟨_, _, _, _, _, _, _, D681, M681⟩) (nk_cons (R := fun f d => ∃ C n x q st fd ps, DefOk K mg W G f d C n x q st fd ps ∧ ModOk K mg W G C) (⟨_, _, _, _, _, _, _, D682, M682⟩) (nk_cons (R := fun f d => ∃ C n x q st fd ps, DefOk K mg W G f d C n x q st fd ps ∧ ModOk K mg W G C) (⟨_, _, _, _, _, _, _, D683, M683⟩) (nk_cons (R := fun f d => ∃ C n x q st fd ps, DefOk K mg W G f d C n x q st fd ps ∧ ModOk K mg W G C) (⟨_, _, _, _, _, _, _, D684, M684⟩) (nk_cons (R := fun f d => ∃ C n x q st fd ps, DefOk K mg W G f d C n x q st fd ps ∧ ModOk K mg W G C) (⟨_, _, _, _, _, _, _, D685, M685⟩) (nk_cons (R := fun f d => ∃ C n x q st fd ps, DefOk K mg W G f d C n x q st fd ps ∧ ModOk K mg W G C) (⟨_, _, _, _, _, _, _, D686, M686⟩) (nk_cons (R := fun f d => ∃ C n x q st fd ps, DefOk K mg W G f d C n x q st fd ps ∧ ModOk K mg W G C) (⟨_, _, _, _, _, _, _, D0, M0⟩) (nk_cons (R := fun f d => ∃ C n x q st fd ps, DefOk K mg W G f d C n x q st fd ps ∧ ModOk K mg W G C) (⟨_, _, _, _, _, _, _, D1, M1⟩) (nk_cons (R := fun f d => ∃ C n x q st fd ps, DefOk K mg W G f d C n x q st fd ps ∧ ModOk K mg W G C) (⟨_, _, _, _, _, _, _, D2, M2⟩) (nk_nil)))))))))))))))))))))))))))))))))
  exact ⟨_, fun s v => .of_eq rfl, fun base _ _ => law_fn (W := W) (G := G) rfl (law_at (P := l.prog) (w := w) (base := base) rfl rfl hd (k := 199) (f := 2) (d := d2) rfl rfl D2 M2) hlaw⟩
end Law
namespace Law
open Z
set_option maxHeartbeats 2000000
theorem bg : BG G := ⟨rfl, rfl, rfl, rfl, rfl, rfl, rfl, rfl, rfl, rfl, rfl, rfl, rfl, rfl, rfl⟩
theorem tg : TG G := ⟨rfl, rfl, rfl, rfl, rfl, rfl, rfl⟩
theorem one_ok {E : List Int} (lE : E.length ≤ 5) {t : Tr} (h : t.h ≤ 8) : t.size * pw E ≤ 16384 := by
  have h1 := t.size_le
  have h2 : 2 ^ (t.h + 1) ≤ 2 ^ 9 := Nat.pow_le_pow_right (by decide) (by omega)
  have h3 : pw E ≤ 2 ^ 5 := Nat.pow_le_pow_right (by decide) lE
  exact Nat.le_trans (Nat.mul_le_mul (show t.size ≤ 512 by omega) h3) (by decide)
section
variable {E : List Int} {st : Bd}
theorem tbs (ns : List Nd) (f : List Nat) : f.map (tb E ns) = (f.map (tvN E ns)).map tupB := by rw [List.map_map]; rfl
theorem mem_tb (g : Good E st) {c : Nat} {t : Bt} (d : Den st.ns c t) (w : Wt E t) {f : List Nat} (hf : ∀ x ∈ f, x < st.ns.length + 2) : ((f.map (tb E st.ns)).any fun e => eqv e (tupB (Tv E t.val))) = decide (c ∈ f) := by
  rw [tbs, any_tupB]
  apply decide_eq_decide.mpr
  rw [List.mem_map]
  constructor
  · rintro ⟨c', hc', e⟩
    obtain ⟨t', dt', wt'⟩ := g.den c' (hf c' hc')
    unfold tvN at e
    rw [treeN_den dt'] at e
    rw [← (tv_inj g dt' d wt' w).mp e]; exact hc'
  · intro h
    refine ⟨c, h, ?_⟩
    unfold tvN
    rw [treeN_den d]
theorem data_tbs (ns : List Nd) (f : List Nat) : isData 64 (.lst (f.map (tb E ns))) = true := by rw [tbs]; exact data_tupBs _
theorem cmem_tb (g : Good E st) {c : Nat} {t : Bt} (d : Den st.ns c t) (w : Wt E t) {f : List Nat} (hf : ∀ x ∈ f, x < st.ns.length + 2) (S : Sto) : cMem false (.d (tupB (Tv E t.val))) (.d (.lst (f.map (tb E st.ns)))) S = .ok (.d (.bl (decide (c ∈ f)))) S := by
  rw [memL_deep (data_tupB _) (data_tbs _ _), mem_tb g d w hf]; rfl
theorem walk_lt (g : Good E st) : ∀ (t : Bt) (c : Nat) (f : List Nat), Den st.ns c t → (∀ x ∈ f, x < st.ns.length + 2) → ∀ x ∈ walkT st.ns t c f, x < st.ns.length + 2 := fun t c f d hf x hx => by
  rcases walk_sub t c f d x hx with h | ⟨_, u, du, _⟩
  · exact hf x h
  · exact du.lt
theorem listed_run (g : Good E st) (hE : E.length ≤ 10) : ∀ (t : Bt) (c : Nat) (f : List Nat) (k : Nat) (S : Sto), Den st.ns c t → Wt E t → (∀ x ∈ f, x < st.ns.length + 2) → f.length + t.size ≤ 1000000 → t.h + 4 ≤ k →
    run G k 0 [.d (tupB (Tv E t.val)), .d (.lst (E.map .int)), .d (.lst (f.map (tb E st.ns)))] S = .ok (.d (.lst ((walkT st.ns t c f).map (tb E st.ns)))) S := by
  intro t
  induction t with
  | leaf b =>
    intro c f k S d w hf hl hk
    obtain ⟨k, rfl⟩ : ∃ j, k = j + 4 := ⟨k - 4, by omega⟩
    have hlv : (Tv E (Bt.leaf b).val).length = 2 ^ E.length := by simp [Tv, subs_len]
    have tr := top_run (G := G) rfl rfl hlv (by omega) (k + 1) []
    rw [top_leaf g.asc] at tr
    rw [run_alone (d := Law.d0) rfl rfl rfl rfl]
    simp [Law.d0, b0, tr, optN]
    rfl
  | node x l r il ir =>
    intro c f k S d w hf hl hk
    simp only [Bt.h] at hk
    simp only [Bt.size] at hl
    obtain ⟨k, rfl⟩ : ∃ j, k = j + 4 := ⟨k - 4, by omega⟩
    have hlv : (Tv E (Bt.node x l r).val).length = 2 ^ E.length := by simp [Tv, subs_len]
    have tr := top_run (G := G) rfl rfl hlv (by omega) (k + 1) []
    obtain ⟨j, hj, hx, tj⟩ := top_node g.asc w
    rw [tj] at tr
    have mc := cmem_tb g d w hf []
    have d0 := d
    obtain ⟨i, a, b, rfl, k1, da, db⟩ := d.node_inv
    rw [run_alone (d := Law.d0) rfl rfl rfl rfl]
    rw [walk_node k1]
    by_cases hin : i + 2 ∈ f
    · rw [if_pos hin]
      simp [hin] at mc
      simp [Law.d0, b0, tr, optN, mc]
    · rw [if_neg hin]
      obtain ⟨p0, p1⟩ := fx_part g.asc w hj hx
      have f0 := fixed_run (G := G) rfl hlv (by omega) hj (b := 0) (by decide) (k + 2) []
      have f1 := fixed_run (G := G) rfl hlv (by omega) hj (b := 1) (by decide) (k + 2) []
      rw [p0] at f0
      rw [p1] at f1
      obtain ⟨P, E', hE', wl, wr, _⟩ := w.split rfl
      have wl' : Wt E l := by rw [hE']; exact (Wt.skip wl).app P
      have wr' : Wt E r := by rw [hE']; exact (Wt.skip wr).app P
      have fl := walk_len l a f da
      have e1 := il a f (k + 3) [] da wl' hf (by omega) (by omega)
      have e2 := ir b (walkT st.ns l a f) (k + 3) [] db wr' (walk_lt g l a f da hf) (by omega) (by omega)
      have fl2 := walk_len r b (walkT st.ns l a f) db
      have hq : (walkT st.ns r b (walkT st.ns l a f)).length + 1 ≤ 16777216 := by omega
      have et : tb E st.ns (i + 2) = tupB (Tv E (Bt.node x l r).val) := by unfold tb tvN; rw [treeN_den d0]
      simp [hin] at mc
      simp at f0 f1
      simp [Law.d0, b0, tr, optN, mc, f0, f1, e1, e2, hq, et]
theorem find_tb (g : Good E st) {c : Nat} {t : Bt} (d : Den st.ns c t) (w : Wt E t) : ∀ {f : List Nat}, (∀ x ∈ f, x < st.ns.length + 2) → c ∈ f → (f.map (tb E st.ns)).findIdx? (fun e => eqv e (tupB (Tv E t.val))) = some (f.idxOf c)
  | [], _, h => by cases h
  | x :: f, hf, h => by
    have e1 := mem_tb g d w (f := [x]) fun y hy => hf y (by rw [List.mem_singleton.mp hy]; simp)
    simp only [List.map_cons, List.map_nil, List.any_cons, List.any_nil, Bool.or_false, List.mem_singleton] at e1
    rw [List.map_cons, List.findIdx?_cons, e1, List.idxOf_cons]
    by_cases hx : c = x
    · simp [hx]
    · have hb : (x == c) = false := by simpa using fun z : x = c => hx z.symm
      have := find_tb g d w (f := f) (fun y hy => hf y (List.mem_cons_of_mem _ hy)) ((List.mem_cons.mp h).resolve_left hx)
      rw [this, hb]
      simp [hx]
theorem number_run (g : Good E st) (hE : E.length ≤ 10) {c : Nat} {t : Bt} (d : Den st.ns c t) (w : Wt E t) {f : List Nat} (hf : ∀ x ∈ f, 2 ≤ x ∧ x < st.ns.length + 2) (hc : c < 2 ∨ c ∈ f) (k : Nat) (S : Sto) : run G (k + 1) 1 [.d (tupB (Tv E t.val)), .d (.lst (f.map (tb E st.ns)))] S = .ok (.d (.int (nm f c : Int))) S := by
  have mc := cmem_tb g d w (fun x hx => (hf x hx).2) ([] : Sto)
  rw [run_alone (d := Law.d1) rfl rfl rfl rfl]
  unfold nm
  by_cases h2 : c < 2
  · rw [if_pos h2]
    have hn : c ∉ f := fun z => by have := (hf c z).1; omega
    simp [hn] at mc
    cases t with
    | node x l r => obtain ⟨i, a, b, rfl, _, _, _⟩ := d.node_inv; omega
    | leaf b =>
      have hlv : (Tv E (Bt.leaf b).val).length = 2 ^ E.length := by simp [Tv, subs_len]
      have hpos : 0 < 2 ^ E.length := Nat.two_pow_pos _
      have h0 : (Tv E (Bt.leaf b).val)[0]? = some b := by
        rw [List.getElem?_eq_getElem (by omega)]
        simp [Tv, Bt.val]
      have ix : index (.d (tupB (Tv E (Bt.leaf b).val))) (.d (.int 0)) ([] : Sto) = .ok (.d (.bl b)) [] := by
        refine eqD_tup 0 (x := .bl b) ?_
        rw [List.getElem?_map, h0]; rfl
      have := d.leaf_inv
      subst this
      simp [Law.d1, b1, mc, ix]
      cases b <;> rfl
  · rw [if_neg h2]
    have hin := hc.resolve_left h2
    simp [hin] at mc
    have mi : mIndex (.d (.lst (f.map (tb E st.ns)))) (.d (tupB (Tv E t.val))) ([] : Sto) = .ok (.d (.int (f.idxOf c : Int))) [] := by
      rw [mIndex_lst, data_tbs, data_tupB, find_tb g d w (fun x hx => (hf x hx).2) hin]
      rfl
    simp [Law.d1, b1, mc, mi]
end
def bodyK : List Z.St := match b2.drop 6 with
  | .fors _ _ _ b :: _ => b
  | _ => []
def bodyN : List Z.St := match bodyK.drop 2 with
  | .fors _ _ _ b :: _ => b
  | _ => []
def env (ns E : List Int) (ts : List Tr) (cs : List Nat) (x5 x9 x10 x11 x12 x13 : Option Vl) : Env := [some (.d (.scr ns)), some (.p 0), some (.d (.lst (E.map .int))), some (.p 1), some (.d (.lst (ts.map Tr.enc))), x5, some (.d (.lst (cs.map encN))), none, some (.d (.lst (ts.map fun t => tupB (Tv E t.ev)))),
  x9, x10, x11, x12, x13, none, none, none, none, none]
/-- the rows of a table by truths -/
theorem node_loop (ns E : List Int) (ts : List Tr) (cs : List Nat) {st : Bd} (g : Good E st) (hE : E.length ≤ 5) {F : List Nat} (hF : ∀ x ∈ F, ∃ i y u v, x = i + 2 ∧ st.ns[i]? = some (y, u, v) ∧ ∃ l r, Den st.ns u l ∧ Den st.ns v r ∧ Den st.ns x (.node y l r)) (hcl : Closed st.ns F) (hlt : ∀ x ∈ F, 2 ≤ x ∧ x < st.ns.length + 2) (P : Nat) (x5 : Option Vl) : ∀ (xs : List Nat) (S : Sto) (acc : List D) (x11 x12 x13 : Option Vl), (∀ x ∈ xs, x ∈ F) → S[P]? = some (.lst (acc.map .d)) → acc.length + xs.length ≤ 100000 →
    ∃ y11 y12 y13, fors (exs G (run G 199) bodyN) (.var 11) (xs.map (Vl.d ∘ tb E st.ns)) (env ns E ts cs x5 (some (.d (.lst (F.map (tb E st.ns))))) (some (.p P)) x11 x12 x13) S = .nx (env ns E ts cs x5 (some (.d (.lst (F.map (tb E st.ns))))) (some (.p P)) y11 y12 y13) (S.set P (.lst ((acc ++ xs.map (tabD st.ns F)).map .d))) := by
  intro xs
  induction xs with
  | nil => intro S acc x11 x12 x13 _ hP _; exact ⟨x11, x12, x13, by rw [show acc ++ List.map (tabD st.ns F) [] = acc by simp, set_same hP]; rfl⟩
  | cons x xs ih =>
    intro S acc x11 x12 x13 hx hP hl
    rw [List.length_cons] at hl
    have hxF := hx x (by simp)
    obtain ⟨i, y, u, v, rfl, k1, l, r, du, dv, dx⟩ := hF x hxF
    obtain ⟨t0, d0, w⟩ := g.den (i + 2) (hlt _ hxF).2
    have := d0.fn dx
    subst this
    have et : tb E st.ns (i + 2) = tupB (Tv E (Bt.node y l r).val) := by unfold tb tvN; rw [treeN_den dx]
    have hlv : (Tv E (Bt.node y l r).val).length = 2 ^ E.length := by simp [Tv, subs_len]
    have tr := top_run (G := G) rfl rfl hlv (by omega) 197 S
    obtain ⟨j, hj, hy, tj⟩ := top_node g.asc w
    rw [tj] at tr
    obtain ⟨p0, p1⟩ := fx_part g.asc w hj hy
    have f0 := fixed_run (G := G) rfl hlv (by omega) hj (b := 0) (by decide) 198 S
    have f1 := fixed_run (G := G) rfl hlv (by omega) hj (b := 1) (by decide) 198 S
    rw [p0] at f0
    rw [p1] at f1
    obtain ⟨Q, E', hE', wl, wr, _⟩ := w.split rfl
    have wl' : Wt E l := by rw [hE']; exact (Wt.skip wl).app Q
    have wr' : Wt E r := by rw [hE']; exact (Wt.skip wr).app Q
    have kp : ∀ p, (p = u ∨ p = v) → p < 2 ∨ p ∈ F := fun p hp => by
      by_cases z : p < 2
      · exact .inl z
      · exact .inr ((hcl _ hxF).2 p ((mem_kids k1).mpr ⟨hp, by omega⟩))
    have n0 := number_run g (by omega) du wl' hlt (kp u (.inl rfl)) 198 S
    have n1 := number_run g (by omega) dv wr' hlt (kp v (.inr rfl)) 198 S
    have ht : tabD st.ns F (i + 2) = .tup [.int y, .int (nm F u : Int), .int (nm F v : Int)] := by
      unfold tabD
      rw [show i + 2 - 2 = i by omega, k1]
    have lP := lt_of_get hP
    have hz : acc.length < 16777216 := by omega
    obtain ⟨y11, y12, y13, e⟩ := ih (S.set P (.lst ((acc ++ [tabD st.ns F (i + 2)]).map .d))) (acc ++ [tabD st.ns F (i + 2)]) (some (.d (tb E st.ns (i + 2)))) (some (.d (.int (j : Int)))) (some (.d (.lst [.int (nm F u : Int), .int (nm F v : Int)]))) (fun y hy => hx y (List.mem_cons_of_mem _ hy)) (List.getElem?_set_self lP) (by simp; omega)
    refine ⟨y11, y12, y13, ?_⟩
    rw [List.map_cons, fors_var]
    have hjE : (E.map D.int)[j]? = some (.int y) := by rw [List.getElem?_map, List.getElem?_eq_getElem hj, hy]; rfl
    have hj' : (j : Int) < (E.length : Int) := by omega
    have ixE : index (.d (.lst (E.map .int))) (.d (.int (j : Int))) S = .ok (.d (.int y)) S := by
      rw [index_lst]
      simp only [atI_a, List.length_map, ixN_a]
      rw [if_pos (by omega), if_pos hj']
      show ixOf S ((E.map D.int)[(j : Int).toNat]?) = _
      rw [Int.toNat_natCast, hjE]; rfl
    simp only [Nat.reduceAdd] at tr f0 f1 n0 n1
    simp at f0 f1
    have tt := turns_en (f := lcB G (run G 199) none (.call 1 [.call 684 [.var 11, .var 12, .var 14], .var 9])) (i := 14) (ρ := env ns E ts cs x5 (some (.d (.lst (F.map (tb E st.ns))))) (some (.p P)) (some (.d (tupB (Tv E (Bt.node y l r).val)))) (some (.d (.int (j : Int)))) x13) (S := S) encN (fun b => .int (nm F (if b = 0 then u else v) : Int)) (xs := [0, 1]) [] (fun b hb => by
      have : b = 0 ∨ b = 1 := by simpa using hb
      rcases this with rfl | rfl
      · simp [env, encN, f0, n0]
      · simp [env, encN, f1, n1]) (by simp)
    simp [encN] at tt
    have ixa : ∀ a b : D, index (.d (.lst [a, b])) (.d (.int 0)) S = .ok (.d a) S := fun a b => by simp
    have ixb : ∀ a b : D, index (.d (.lst [a, b])) (.d (.int 1)) S = .ok (.d b) S := fun a b => by simp
    have ap : mAppend (.p P) (.d (.tup [.int y, .int (nm F u : Int), .int (nm F v : Int)])) S = .ok (.d .non) (S.set P (.lst ((acc ++ [D.tup [.int y, .int (nm F u : Int), .int (nm F v : Int)]]).map .d))) := by
      simp [mAppend, hP, hz]
    have hlist : (listOf (.p P) S).isSome = true := by simp [listOf, hP]
    have step : exs G (run G 199) bodyN ((env ns E ts cs x5 (some (.d (.lst (F.map (tb E st.ns))))) (some (.p P)) x11 x12 x13).set 11 (some (.d (tupB (Tv E (Bt.node y l r).val))))) S = .nx (env ns E ts cs x5 (some (.d (.lst (F.map (tb E st.ns))))) (some (.p P)) (some (.d (tupB (Tv E (Bt.node y l r).val)))) (some (.d (.int (j : Int)))) (some (.d (.lst [.int (nm F u : Int), .int (nm F v : Int)])))) (S.set P (.lst ((acc ++ [D.tup [.int y, .int (nm F u : Int), .int (nm F v : Int)]]).map .d))) := by
      simp [env] at tt
      simp [-index_lst, bodyN, bodyK, b2, env, tr, optN, tt, ixE, ixa, ixb, ap, hlist]
    rw [ht] at e
    rw [et] at e
    have e0 : (some ((Vl.d ∘ tb E st.ns) (i + 2)) : Option Vl) = some (.d (tupB (Tv E (Bt.node y l r).val))) := by rw [← et]; rfl
    rw [e0, step, forNx_nx, e, List.set_set]
    simp [ht]
theorem ix_map {α : Type} (f : α → D) {l : List α} {j : Nat} {x : α} (h : l[j]? = some x) (S : Sto) : index (.d (.lst (l.map f))) (.d (.int (j : Int))) S = .ok (.d (f x)) S := by
  obtain ⟨hj, _⟩ := List.getElem?_eq_some_iff.mp h
  have hj' : (j : Int) < (l.length : Int) := by omega
  rw [index_lst]
  simp only [atI_a, List.length_map, ixN_a]
  rw [if_pos (by omega), if_pos hj']
  show ixOf S ((l.map f)[(j : Int).toNat]?) = _
  rw [Int.toNat_natCast, List.getElem?_map, h]; rfl
theorem k_step (ns E : List Int) (ts : List Tr) (cs : List Nat) {S : Sto} {st : Bd} (h : DAt S 1 2 3 4 st) (g : Good E st) (hE : E.length ≤ 5) {j c : Nat} {tr : Tr} {t : Bt} (hc : cs[j]? = some c) (htr : ts[j]? = some tr) (d : Den st.ns c t) (w : Wt E t) (hv : Tv E tr.ev = Tv E t.val) (x5 x9 x10 x11 x12 x13 : Option Vl) :
    ∃ y9 y10 y11 y12 y13 more, exs G (run G 199) bodyK ((env ns E ts cs x5 x9 x10 x11 x12 x13).set 5 (some (.d (.int (j : Int))))) S = .nx (env ns E ts cs (some (.d (.int (j : Int)))) y9 y10 y11 y12 y13) (S ++ more) := by
  have hh := w.h_le
  have hsz := w.size
  have hpw : pw E ≤ 32 := Nat.pow_le_pow_right (n := 2) (by decide) hE
  have li := listed_run g (by omega) t c [] 199 S d w (by simp) (by simp; omega) (by omega)
  obtain ⟨more, tbl⟩ := table_run (G := G) bg rfl rfl rfl (by decide) (S := S ++ [.dead]) h.apps (by omega : E.length ≤ 10) 196 d w
  have hF := fun x hx => den_walk d (x := x) hx
  have hcl := walk_closed t c [] d (fun c hc => by cases hc)
  have hlt : ∀ x ∈ walkT st.ns t c [], 2 ≤ x ∧ x < st.ns.length + 2 := fun x hx => ⟨(hcl x hx).1, walk_lt g t c [] d (by simp) x hx⟩
  have hcw : c < 2 ∨ c ∈ walkT st.ns t c [] := by
    by_cases z : c < 2
    · exact .inl z
    · exact .inr (walk_mem d (by omega))
  have hwl := walk_len t c [] d
  simp only [List.length_nil, Nat.zero_add] at hwl
  generalize walkT st.ns t c [] = F at *
  obtain ⟨y11, y12, y13, nl⟩ := node_loop ns E ts cs g hE (F := F) (fun x hx => by
    obtain ⟨i, y, u, v, e, k1, l, r, a, b, dd, _⟩ := hF x hx
    exact ⟨i, y, u, v, e, k1, l, r, a, b, dd⟩) hcl hlt S.length (some (.d (.int (j : Int)))) F (S ++ [.lst []]) [] x11 x12 x13 (fun _ h => h) (by simp) (by simp; omega)
  have nu := number_run g (by omega) d w hlt hcw 198 (S ++ [.dead] ++ more)
  have ixt := fun S => ix_map (fun t : Tr => tupB (Tv E t.ev)) htr S
  have ixc : ∀ S, index (.d (.lst (cs.map encN))) (.d (.int (j : Int))) S = .ok (.d (.int (c : Int))) S := fun S => ix_map encN hc S
  simp only [hv] at ixt
  have hz : pures ((F.map (tabD st.ns F)).map .d) = some (F.map (tabD st.ns F)) := pures_map _
  have hfr : frz [10] (env ns E ts cs (some (.d (.int (j : Int)))) (some (.d (.lst (F.map (tb E st.ns))))) (some (.p S.length)) y11 y12 y13) (S ++ [.lst ((F.map (tabD st.ns F)).map .d)]) = some (env ns E ts cs (some (.d (.int (j : Int)))) (some (.d (.lst (F.map (tb E st.ns))))) (some (.d (.lst (F.map (tabD st.ns F))))) y11 y12 y13, S ++ [.dead]) := by
    have hz' : pures (F.map (Vl.d ∘ tabD st.ns F)) = some (F.map (tabD st.ns F)) := pures_mapf _ _
    simp [frz, env, freeze, hz']
  have hs := (h.apps (more := [Cell.dead])).hs
  have hsame := same_run (G := G) (f := 507) rfl 3 (.tup [.lst (F.map (tabD st.ns F)), .int (nm F c : Int)]) (by
    have k1 : okS 2 (.lst (F.map (tabD st.ns F))) = true := by
      simp only [okS, Bool.and_eq_true, decide_eq_true_eq]
      refine ⟨by simp; omega, okSs_of fun x hx => ?_⟩
      obtain ⟨y, hy, rfl⟩ := List.mem_map.mp hx
      obtain ⟨i, z, u, v, rfl, k1, _⟩ := hF y hy
      unfold tabD
      rw [show i + 2 - 2 = i by omega, k1]
      rfl
    have : okS 3 (.tup [.lst (F.map (tabD st.ns F)), .int (nm F c : Int)]) = (decide (2 ≤ 16777216) && okSs 2 [.lst (F.map (tabD st.ns F)), .int (nm F c : Int)]) := rfl
    rw [this, okSs_of (n := 2) fun x hx => by
      simp at hx
      rcases hx with rfl | rfl
      · exact k1
      · rfl]
    rfl) 198 (by omega) (S ++ [.dead] ++ more)
  refine ⟨some (.d (.lst (F.map (tb E st.ns)))), some (.d (.lst (F.map (tabD st.ns F)))), y11, y12, y13, .dead :: more, ?_⟩
  simp only [List.map_nil] at li
  simp only [Nat.reduceAdd] at tbl nu hsame
  simp at nl
  have e1 : S ++ Cell.dead :: more = S ++ [.dead] ++ more := by simp
  rw [e1]
  simp [env, bodyN, bodyK, b2] at nl
  simp [env] at hfr
  simp at tbl nu hsame hs
  simp [-index_lst, bodyK, b2, env, ixt, li, nl, hfr, ixc, hs, tbl, nu, hsame]
theorem three {α : Type} : ∀ {l : List α}, l.length = 3 → ∃ a b c, l = [a, b, c]
  | [a, b, c], _ => ⟨a, b, c, rfl⟩
theorem law_true : ∀ ns : List Int, ns.length ≤ 63 → ∃ S', run G 200 2 [.d (.scr ns)] [] = .ok (.d (.bl true)) S' := by
  intro ns hns
  obtain ⟨c0, e0, d0'⟩ := draw_run (G := G) (k := 198) (f := 500) rfl ns (by omega) []
  obtain ⟨E, c1, e1, d1, ascE, lE1, lE5, bE⟩ := entries_run tg d0' (most := 5) (by decide) (by decide) 197
  have lE : E.length ≤ 5 := by omega
  have ini := init_run bg [c1] 197
  obtain ⟨v1, c2, e2, d2, p2, q2⟩ := next_run (G := G) (k := 198) (f := 501) rfl (m := 5) (by decide) (by decide) (S := [c1, .ins 1 [(3, .p 2), (4, .p 3), (5, .p 4)], .lst [.d .non, .d .non], .dct true [], .dct true []]) (n := 0) rfl d1
  obtain ⟨t1, c3, e3, d3, i3, h3⟩ := tree_run (n := 0) tg lE1 (by omega) (v1.toNat + 1) [c2, .ins 1 [(3, .p 2), (4, .p 3), (5, .p 4)], .lst [.d .non, .d .non], .dct true [], .dct true []] c2 199 rfl d2 (by omega)
  obtain ⟨v2, c4, e4, d4, p4, q4⟩ := next_run (G := G) (k := 198) (f := 501) rfl (m := 5) (by decide) (by decide) (S := [c3, .ins 1 [(3, .p 2), (4, .p 3), (5, .p 4)], .lst [.d .non, .d .non], .dct true [], .dct true []]) (n := 0) rfl d3
  obtain ⟨t2, c5, e5, d5, i5, h5⟩ := tree_run (n := 0) tg lE1 (by omega) (v2.toNat + 1) [c4, .ins 1 [(3, .p 2), (4, .p 3), (5, .p 4)], .lst [.d .non, .d .non], .dct true [], .dct true []] c4 199 rfl d4 (by omega)
  obtain ⟨v3, c6, e6, d6, p6, q6⟩ := next_run (G := G) (k := 198) (f := 501) rfl (m := 5) (by decide) (by decide) (S := [c5, .ins 1 [(3, .p 2), (4, .p 3), (5, .p 4)], .lst [.d .non, .d .non], .dct true [], .dct true []]) (n := 0) rfl d5
  obtain ⟨t3, c7, e7, d7, i7, h7⟩ := tree_run (n := 0) tg lE1 (by omega) (v3.toNat + 1) [c6, .ins 1 [(3, .p 2), (4, .p 3), (5, .p 4)], .lst [.d .non, .d .non], .dct true [], .dct true []] c6 199 rfl d6 (by omega)
  rw [show ((v1.toNat + 1 : Nat) : Int) = 1 + v1 by omega] at e3
  rw [show ((v2.toNat + 1 : Nat) : Int) = 1 + v2 by omega] at e5
  rw [show ((v3.toNat + 1 : Nat) : Int) = 1 + v3 by omega] at e7
  simp at e0 e1 e2 e3 e4 e5 e6 e7 ini
  have z1 := one_ok lE (t := t1) (by omega)
  have z2 := one_ok lE (t := t2) (by omega)
  have z3 := one_ok lE (t := t3) (by omega)
  obtain ⟨cs, S1, st1, b1', D1, F1, L1, G1, n1, v1', s1, m1⟩ := builds (G := G) (s := 1) (n := 2) (m := 3) (r := 4) (k := 199) (i := 7) (H := 8) (W := 16384) (f := lcB G (run G 199) none (.call 680 [.var 3, .var 7]))
    (ρ := [some (.d (.scr ns)), some (.p 0), some (.d (.lst (E.map .int))), some (.p 1), some (.d (.lst ([t1, t2, t3].map Tr.enc))), none, none, none, none, none, none, none, none, none, none, none, none, none, none]) bg tg (fun d S c S' h => by simp [h]) (by omega) [t1, t2, t3] [] _ _ (new_at [c7]) (new_good ascE) (by
      intro t ht
      simp at ht
      rcases ht with rfl | rfl | rfl
      · exact ⟨i3, by omega, z1⟩
      · exact ⟨i5, by omega, z2⟩
      · exact ⟨i7, by omega, z3⟩) (by simp) (by simp) (by simp)
  obtain ⟨a1, a2, a3, rfl⟩ := three n1
  have x0 : S1[0]? = some c7 := F1.at_ 0 (by simp) (by decide) (by decide) (by decide)
  obtain ⟨_, y1, u1, du1, wu1, vu1⟩ := v1' 0 t1 rfl
  obtain ⟨_, y2, u2, du2, wu2, vu2⟩ := v1' 1 t2 rfl
  obtain ⟨_, y3, u3, du3, wu3, vu3⟩ := v1' 2 t3 rfl
  cases y1
  cases y2
  cases y3
  have tv1 : Tv E t1.ev = Tv E u1.val := by rw [show t1.ev = u1.val from funext fun ρ => (vu1 ρ).symm]
  have tv2 : Tv E t2.ev = Tv E u2.val := by rw [show t2.ev = u2.val from funext fun ρ => (vu2 ρ).symm]
  have tv3 : Tv E t3.ev = Tv E u3.val := by rw [show t3.ev = u3.val from funext fun ρ => (vu3 ρ).symm]
  -- truths
  have htr := turns_en (f := lcB G (run G 199) none (.call 683 [.var 7, .var 2])) (i := 7) (ρ := [some (.d (.scr ns)), some (.p 0), some (.d (.lst (E.map .int))), some (.p 1), some (.d (.lst ([t1, t2, t3].map Tr.enc))), none, some (.d (.lst ([a1, a2, a3].map encN))), none, none, none, none, none, none, none, none, none, none, none, none]) (S := S1) Tr.enc (fun t => tupB (Tv E t.ev)) (xs := [t1, t2, t3]) [] (fun t ht => by
    have hi : t.In E ∧ t.h ≤ 8 := by
      simp at ht
      rcases ht with rfl | rfl | rfl
      · exact ⟨i3, by omega⟩
      · exact ⟨i5, by omega⟩
      · exact ⟨i7, by omega⟩
    have r := truth_run (G := G) tg rfl hi.1 (by omega : E.length ≤ 10) 198 (by omega) (by omega) S1
    simp only [Nat.reduceAdd] at r
    simp [r]) (by simp)
  -- the three
  obtain ⟨b9, b10, b11, b12, b13, m1', k0⟩ := k_step ns E [t1, t2, t3] [a1, a2, a3] D1 G1 lE (j := 0) rfl rfl du1 wu1 tv1 none none none none none none
  obtain ⟨d9, d10, d11, d12, d13, m2', k1⟩ := k_step ns E [t1, t2, t3] [a1, a2, a3] (D1.apps (more := m1')) G1 lE (j := 1) rfl rfl du2 wu2 tv2 (some (.d (.int ((0 : Nat) : Int)))) b9 b10 b11 b12 b13
  obtain ⟨f9, f10, f11, f12, f13, m3', k2⟩ := k_step ns E [t1, t2, t3] [a1, a2, a3] ((D1.apps (more := m1')).apps (more := m2')) G1 lE (j := 2) rfl rfl du3 wu3 tv3 (some (.d (.int ((1 : Nat) : Int)))) d9 d10 d11 d12 d13
  have wk3 := wk_rng (S := [c1, Cell.ins 1 [(3, Vl.p 2), (4, .p 3), (5, .p 4)], .lst [.d .non, .d .non], .dct true [], .dct true []]) (i := 3) (by decide) (by decide)
  have wk3' := wk_rng (S := S1) (i := 3) (by decide) (by decide)
  have r3 : List.range 3 = [0, 1, 2] := rfl
  rw [run_alone (d := Law.d2) rfl rfl rfl rfl]
  dsimp only [Law.d2]
  rw [exs_split 4 b2]
  generalize hrest : exs G (run G 199) (b2.drop 4) = rest
  simp at b1' htr
  simp [b2, e0, e1, ini, wk3, r3, turns, e2, e3, e4, e5, e6, e7]
  subst hrest
  rw [exs_split 2 (b2.drop 4), List.drop_drop]
  generalize hrest : exs G (run G 199) (b2.drop (4 + 2)) = rest
  simp [b2, b1', htr]
  subst hrest
  rw [exs_split 1 (b2.drop (4 + 2)), List.drop_drop]
  generalize hrest : exs G (run G 199) (b2.drop (4 + 2 + 1)) = rest
  simp at k0 k1 k2
  simp [env, bodyK, b2] at k0 k1 k2
  simp [b2, wk3', r3, fors_var, forNx_nx, fors_none, k0, k1, k2]
  subst hrest
  have D4 : DAt (S1 ++ (m1' ++ (m2' ++ m3'))) 1 2 3 4 st1 := D1.apps
  have x4 : (S1 ++ (m1' ++ (m2' ++ m3')))[0]? = some c7 := by rw [List.getElem?_append_left (lt_of_get x0)]; exact x0
  generalize S1 ++ (m1' ++ (m2' ++ m3')) = S4 at *
  obtain ⟨v8, c8, e8, d8, p8, q8⟩ := next_run (G := G) (k := 198) (f := 501) rfl (m := 4) (by decide) (by decide) x4 d7
  have l4 := lt_of_get x4
  obtain ⟨v9, c9, e9, d9', p9, q9⟩ := next_run (G := G) (k := 198) (f := 501) rfl (m := 2) (by decide) (by decide) (S := S4.set 0 c8) (n := 0) (List.getElem?_set_self l4) d8
  rw [List.set_set] at e9
  have D5 : DAt (S4.set 0 c9) 1 2 3 4 st1 := D4.set (by decide) (by decide) (by decide) (by decide)
  obtain ⟨n8, rfl⟩ : ∃ n : Nat, v8 = (n : Int) := ⟨v8.toNat, by omega⟩
  obtain ⟨n9, rfl⟩ : ∃ n : Nat, v9 = (n : Int) := ⟨v9.toNat, by omega⟩
  have hpw : pw E ≤ 32 := Nat.pow_le_pow_right (n := 2) (by decide) lE
  have hcts : ∀ q ∈ ([(u1, a1), (u2, a2), (u3, a3)] : List (Bt × Nat)), Den st1.ns q.2 q.1 ∧ q.1.size ≤ 64 := by
    have s1 := wu1.size
    have s2 := wu2.size
    have s3 := wu3.size
    intro q hq
    simp at hq
    rcases hq with rfl | rfl | rfl
    · exact ⟨du1, by dsimp only; omega⟩
    · exact ⟨du2, by dsimp only; omega⟩
    · exact ⟨du3, by dsimp only; omega⟩
  have hA0 : ([(u1, a1), (u2, a2), (u3, a3)] : List (Bt × Nat)).map (fun p => encN p.2) = [encN a1, encN a2, encN a3] := rfl
  have hB0 : ([(u1, a1), (u2, a2), (u3, a3)] : List (Bt × Nat)).map (fun q => tb E st1.ns q.2) = [tupB (Tv E t1.ev), tupB (Tv E t2.ev), tupB (Tv E t3.ev)] := by
    show [tb E st1.ns a1, tb E st1.ns a2, tb E st1.ns a3] = _
    unfold tb tvN
    rw [treeN_den du1, treeN_den du2, treeN_den du3, tv1, tv2, tv3]
  have hl3 : ([(u1, a1), (u2, a2), (u3, a3)] : List (Bt × Nat)).length = 3 := rfl
  generalize ([(u1, a1), (u2, a2), (u3, a3)] : List (Bt × Nat)) = cts at *
  have hQ : ∀ q ∈ cts.take n8 ++ cts.take n9, Den st1.ns q.2 q.1 ∧ q.1.size ≤ 64 := fun q hq => by
    rcases List.mem_append.mp hq with h | h
    · exact hcts q (List.mem_of_mem_take h)
    · exact hcts q (List.mem_of_mem_take h)
  have lQ : (cts.take n8 ++ cts.take n9).length = n8 + n9 := by rw [List.length_append, List.length_take, List.length_take, hl3]; omega
  obtain ⟨mo, es, hcl, hnd⟩ := size_run (G := G) bg rfl rfl rfl (by decide) D5 196 (W := 64) hQ (by rw [lQ]; omega) (by decide)
  obtain ⟨_, _, _, _, hlen⟩ := reached_run (G := G) bg rfl rfl (by decide) D5 196 (W := 64) hQ (by rw [lQ]; omega) (by decide)
  obtain ⟨fs, ed, lfs⟩ := diag_run (G := G) rfl rfl rfl (by decide) G1 (by omega : E.length ≤ 10) 196 (fun q hq => (hQ q hq).1) hcl hnd (by rw [lQ] at hlen; omega) (by rw [lQ]; omega) (S4.set 0 c9)
  rw [List.map_append, List.map_take, List.map_take, hA0] at es
  rw [List.map_append, List.map_take, List.map_take, hB0] at ed
  generalize hWl : (walkA st1.ns (cts.take n8 ++ cts.take n9) []).length = wl at *
  have hA3 : [encN a1, encN a2, encN a3].length = 3 := rfl
  have hAd : isData 64 (.lst ([encN a1, encN a2, encN a3].take n8 ++ [encN a1, encN a2, encN a3].take n9)) = true := by
    have : [encN a1, encN a2, encN a3] = [(a1 : Int), (a2 : Int), (a3 : Int)].map D.int := rfl
    rw [this, ← List.map_take, ← List.map_take, ← List.map_append]
    exact data_ints _
  have hB3 : [tupB (Tv E t1.ev), tupB (Tv E t2.ev), tupB (Tv E t3.ev)].length = 3 := rfl
  generalize [encN a1, encN a2, encN a3] = A at *
  generalize [tupB (Tv E t1.ev), tupB (Tv E t2.ev), tupB (Tv E t3.ev)] = B at *
  have sl : ∀ (l : List D) (n : Nat) (S : Sto), slice (.d (.lst l)) none (some (n : Int)) S = .ok (.d (.lst (l.take n))) S := fun l n S => by
    simp [slice, sliceL, listOf]
  have lA : ((A.take n8 ++ A.take n9).length : Int) = (n8 : Int) + (n9 : Int) := by rw [List.length_append, List.length_take, List.length_take, hA3]; omega
  have z1 : (A.take n8).length + (A.take n9).length ≤ 16777216 := by rw [List.length_take, List.length_take, hA3]; omega
  have z2 : (B.take n8).length + (B.take n9).length ≤ 16777216 := by rw [List.length_take, List.length_take, hB3]; omega
  have z3 : (A.take n8 ++ A.take n9).length ≤ 16777216 := by rw [List.length_append]; exact z1
  have bl : ∀ S : Sto, bLen (.d (.lst (A.take n8 ++ A.take n9))) S = .ok (.d (.int ((n8 : Int) + (n9 : Int)))) S := fun S => by rw [bLen_lst, lA]
  have e99 : (n8 : Int) + (n9 : Int) - (n8 : Int) = (n9 : Int) := by omega
  have addA : ∀ S : Sto, binop .add (.d (.lst (A.take n8))) (.d (.lst (A.take n9))) S = .ok (.d (.lst (A.take n8 ++ A.take n9))) S := fun S => by
    rw [add_lst, most_x, if_pos (by simpa using z1)]
  have addB : ∀ S : Sto, binop .add (.d (.lst (B.take n8))) (.d (.lst (B.take n9))) S = .ok (.d (.lst (B.take n8 ++ B.take n9))) S := fun S => by
    rw [add_lst, most_x, if_pos (by simpa using z2)]
  have lst : ∀ S : Sto, bList false (.d (.lst (A.take n8 ++ A.take n9))) S = .ok (.d (.lst (A.take n8 ++ A.take n9))) S := fun S => by
    rw [bList_lst, newList_f, pures_map, List.length_map, most_x, if_pos (by simpa using z3)]
  have eqq : ∀ S : Sto, cEqv false (.d (.lst (A.take n8 ++ A.take n9))) (.d (.lst (A.take n8 ++ A.take n9))) S = .ok (.d (.bl true)) S := fun S => by
    rw [eqv_dd, eqv_refl, eqOk_a, hAd]; simp
  have hsame := same_run (G := G) (f := 507) rfl 0 (.int (wl : Int)) rfl 198 (by omega) (S4.set 0 c9 ++ mo)
  have hs5 := D5.hs
  simp only [Nat.reduceAdd] at e8 e9 es ed hsame
  generalize A.take n8 ++ A.take n9 = AA at *
  generalize B.take n8 ++ B.take n9 = BB at *
  simp [-add_lst, -bList_lst, -bLen_lst, -eqv_dd, b2, e8, e9, sl, addA, addB, lst, bl, e99, ed, lfs, bLen_lst, es, hs5, hsame, eqq]
end Law
open PySem PySem.W PyProof.Rows in
set_option maxRecDepth 100000 in
set_option maxHeartbeats 0 in
theorem PySem.Challenge.cw_lineworks_k59_tables_tell_conditions_holds : PySem.Challenge.rw_lineworks_k59_tables_tell_conditions.Holds := by
  w_on; o_law; k_head; (case hw => w_witness2)
  k_fill
  refine Z.walk (l := PySem.Challenge.rw_lineworks_k59_tables_tell_conditions) rfl rfl (Z.room_all (k := 201) (by decide)) (fun w h Y => PySem.W.kIn_of Y) ?F
  case F =>
    intro w mg fa h KX GN hmg
    refine' Law.all_mk KX GN hmg ?aC1 ?pg1 ?hd1 ?po1 ?sa1 ?mk1 ?kc1 ?n1_3 ?n1_4 ?n1_5 ?a155 ?l155 ?e155 ?p155 ?a156 ?l156 ?e156 ?p156 ?a157 ?l157 ?e157 ?p157 ?a158 ?i158 ?l158 ?e158 ?p158 ?a159 ?i159 ?l159 ?e159 ?p159 ?a160 ?i160 ?l160 ?e160 ?p160 ?a161 ?i161 ?l161 ?e161 ?p161 ?a162 ?i162 ?l162 ?e162 ?p162 ?a163 ?i163 ?l163 ?e163 ?p163 ?a164 ?i164 ?l164 ?e164 ?p164 ?a165 ?i165 ?l165 ?e165 ?p165 ?a166 ?i166 ?l166 ?e166 ?p166 ?a167 ?i167 ?l167 ?e167 ?p167 ?a170 ?i170 ?l170 ?e170 ?p170 ?a171 ?i171 ?l171 ?e171 ?p171 ?a172 ?i172 ?l172 ?e172 ?p172 ?a173 ?i173 ?l173 ?e173 ?p173 ?a180 ?i180 ?l180 ?e180 ?p180 ?a500 ?l500 ?e500 ?p500 ?a501 ?l501 ?e501 ?p501 ?a507 ?l507 ?e507 ?p507 ?a678 ?l678 ?e678 ?p678 ?a679 ?l679 ?e679 ?p679 ?a680 ?l680 ?e680 ?p680 ?a681 ?l681 ?e681 ?p681 ?a682 ?l682 ?e682 ?p682 ?a683 ?l683 ?e683 ?p683 ?a684 ?l684 ?e684 ?p684 ?a685 ?l685 ?e685 ?p685 ?a686 ?l686 ?e686 ?p686 ?a0 ?l0 ?e0 ?p0 ?a1 ?l1 ?e1 ?p1 ?a2 ?l2 ?e2 ?p2 ?qQ107 ?qQ108 ?qQ109 ?rQ109 ?sQ109 ?vQ109 ?xQ109 ?yQ109 ?z0 ?z1 ?z2 ?z3 ?z4 ?z5 ?z6 ?z7 ?z8 ?z9 ?z10 ?z11 Law.law_true
    (case aC1 => k_is)
    (case pg1 => k_is)
    (case hd1 => k_is)
    (case po1 => k_is)
    (case sa1 => k_is)
    (case mk1 => k_is)
    (case kc1 => k_is)
    (case n1_3 => k_is)
    (case n1_4 => k_is)
    (case n1_5 => k_is)
    (case a155 => k_is)
    (case l155 => k_is)
    (case e155 => k_is)
    (case p155 => k_is)
    (case a156 => k_is)
    (case l156 => k_is)
    (case e156 => k_is)
    (case p156 => k_is)
    (case a157 => k_is)
    (case l157 => k_is)
    (case e157 => k_is)
    (case p157 => k_is)
    (case a158 => k_is)
    (case i158 => k_is)
    (case l158 => k_is)
    (case e158 => k_is)
    (case p158 => k_is)
    (case a159 => k_is)
    (case i159 => k_is)
    (case l159 => k_is)
    (case e159 => k_is)
    (case p159 => k_is)
    (case a160 => k_is)
    (case i160 => k_is)
    (case l160 => k_is)
    (case e160 => k_is)
    (case p160 => k_is)
    (case a161 => k_is)
    (case i161 => k_is)
    (case l161 => k_is)
    (case e161 => k_is)
    (case p161 => k_is)
    (case a162 => k_is)
    (case i162 => k_is)
    (case l162 => k_is)
    (case e162 => k_is)
    (case p162 => k_is)
    (case a163 => k_is)
    (case i163 => k_is)
    (case l163 => k_is)
    (case e163 => k_is)
    (case p163 => k_is)
    (case a164 => k_is)
    (case i164 => k_is)
    (case l164 => k_is)
    (case e164 => k_is)
    (case p164 => k_is)
    (case a165 => k_is)
    (case i165 => k_is)
    (case l165 => k_is)
    (case e165 => k_is)
    (case p165 => k_is)
    (case a166 => k_is)
    (case i166 => k_is)
    (case l166 => k_is)
    (case e166 => k_is)
    (case p166 => k_is)
    (case a167 => k_is)
    (case i167 => k_is)
    (case l167 => k_is)
    (case e167 => k_is)
    (case p167 => k_is)
    (case a170 => k_is)
    (case i170 => k_is)
    (case l170 => k_is)
    (case e170 => k_is)
    (case p170 => k_is)
    (case a171 => k_is)
    (case i171 => k_is)
    (case l171 => k_is)
    (case e171 => k_is)
    (case p171 => k_is)
    (case a172 => k_is)
    (case i172 => k_is)
    (case l172 => k_is)
    (case e172 => k_is)
    (case p172 => k_is)
    (case a173 => k_is)
    (case i173 => k_is)
    (case l173 => k_is)
    (case e173 => k_is)
    (case p173 => k_is)
    (case a180 => k_is)
    (case i180 => k_is)
    (case l180 => k_is)
    (case e180 => k_is)
    (case p180 => k_is)
    (case a500 => k_is)
    (case l500 => k_is)
    (case e500 => k_is)
    (case p500 => k_is)
    (case a501 => k_is)
    (case l501 => k_is)
    (case e501 => k_is)
    (case p501 => k_is)
    (case a507 => k_is)
    (case l507 => k_is)
    (case e507 => k_is)
    (case p507 => k_is)
    (case a678 => k_is)
    (case l678 => k_is)
    (case e678 => k_is)
    (case p678 => k_is)
    (case a679 => k_is)
    (case l679 => k_is)
    (case e679 => k_is)
    (case p679 => k_is)
    (case a680 => k_is)
    (case l680 => k_is)
    (case e680 => k_is)
    (case p680 => k_is)
    (case a681 => k_is)
    (case l681 => k_is)
    (case e681 => k_is)
    (case p681 => k_is)
    (case a682 => k_is)
    (case l682 => k_is)
    (case e682 => k_is)
    (case p682 => k_is)
    (case a683 => k_is)
    (case l683 => k_is)
    (case e683 => k_is)
    (case p683 => k_is)
    (case a684 => k_is)
    (case l684 => k_is)
    (case e684 => k_is)
    (case p684 => k_is)
    (case a685 => k_is)
    (case l685 => k_is)
    (case e685 => k_is)
    (case p685 => k_is)
    (case a686 => k_is)
    (case l686 => k_is)
    (case e686 => k_is)
    (case p686 => k_is)
    (case a0 => k_is)
    (case l0 => k_is)
    (case e0 => k_is)
    (case p0 => k_is)
    (case a1 => k_is)
    (case l1 => k_is)
    (case e1 => k_is)
    (case p1 => k_is)
    (case a2 => k_is)
    (case l2 => k_is)
    (case e2 => k_is)
    (case p2 => k_is)
    (case qQ107 => k_is)
    (case qQ108 => k_is)
    (case qQ109 => k_is)
    (case rQ109 => k_is)
    (case sQ109 => exact ⟨⟨_, _, rfl, rfl⟩, ⟨_, _, rfl, rfl⟩, ⟨_, _, rfl, rfl⟩, trivial⟩)
    (case vQ109 => exact rfl)
    (case xQ109 => exact rfl)
    (case yQ109 => exact rfl)
    (case z0 => k_is)
    (case z1 => k_is)
    (case z2 => k_is)
    (case z3 => k_is)
    (case z4 => k_is)
    (case z5 => k_is)
    (case z6 => k_is)
    (case z7 => k_is)
    (case z8 => k_is)
    (case z9 => k_is)
    (case z10 => k_is)
    (case z11 => k_is)
#print axioms PySem.Challenge.cw_lineworks_k59_tables_tell_conditions_holds

import PyProof.Rows.All
import Wide.All
import OpenK.AllK
import Wide.FinOn
import HandS.ForMost
import HandS.Flow
import HandS.Style
import HandS.IsInst
import HandS.StrMore
import HandS.Deep
import HandS.Replace
import HandS.More
import HandS.DictComp
import HandS.CallLocal
import HandS.Strs
import HandS.SetBool
import HandS.Gcd
import HandS.Defaults
import HandS.Wide
import KE.DataCmp
import KE.SortData
import PyProof.ReprRoads
import HandS.TupAny
import HandS.ExcOwn
import HandS.Exc
import HandS.Ends
import HandS.SetFor
import PyProof.StrLawsRepr
import PyProof.StrBlockL
import PyProof.FitsInt
import KE.SortKeyHeap
import HandS.SortKw
import HandS.ExcValue
import KE.DataMinKey
import PySem.Challenge.RW_lineworks_k51_expressions_are_evaluated
set_option Elab.async false
set_option linter.all false
section

/-! Z1: a small language of plain values: what a Python text of this program computes, without a heap. -/
namespace Z
open PySem L2

abbrev Tx := List Nat

/-- plain data -/
inductive D where
  | non | bl (b : Bool) | int (i : Int) | str (s : Tx) | fn (f : Nat)
  | tup (xs : List D) | lst (xs : List D) | scr (ns : List Int) | dct (t : Bool) (ks vs : List D) | ins (c : Nat) (ns : List Nat) (vs : List D)
  /-- a dict of the module's top with text keys -/
  | wd (ks : List Tx) (vs : List D)
  deriving Inhabited, Repr

/-- a value: plain data, or the number of a cell -/
inductive Vl where
  | d (x : D) | p (n : Nat)
  deriving Inhabited, Repr

/-- what stands in a cell -/
inductive Cell where
  | dead | lst (xs : List Vl) | dct (t : Bool) (kvs : List (D × Vl)) | ins (c : Nat) (fs : List (Nat × Vl))
  deriving Inhabited, Repr

abbrev Sto := List Cell
abbrev Env := List (Option Vl)
structure Exn where
  cls : Nat
  fs : List (Nat × D)
  deriving Inhabited, Repr

inductive Res (α : Type) where
  | ok (a : α) (S : Sto) | exc (e : Exn) (S : Sto) | bad
  deriving Inhabited, Repr
def Res.bind {α β : Type} (r : Res α) (f : α → Sto → Res β) : Res β :=
  match r with
  | .ok a S => f a S
  | .exc e S => .exc e S
  | .bad => .bad

inductive Op where
  | add | sub | mul | fdiv | mod | pow | shl
  deriving Inhabited, Repr, DecidableEq
inductive Cm where
  | eq | ne | lt | le | gt | ge | is | isn | mem | nmem
  deriving Inhabited, Repr, DecidableEq
/-- built-in functions -/
inductive Bf where
  | len | abs | int | str | list | tuple | sum | min | max | any | all | sorted | range | set | dict | repr | sset | gcd | isinst (ts : List Nat)
  deriving Inhabited, Repr, DecidableEq
/-- built-in methods -/
inductive Bm where
  | append | extend | pop | join | count | rfind | startswith | replace | lstrip | split | index | indexL | indexS | get | items | setdefault
  deriving Inhabited, Repr, DecidableEq
/-- what is walked -/
inductive Ik where
  | seq | range | rev | enum | zip | items
  deriving Inhabited, Repr, DecidableEq
/-- sorted, min, max by key= -/
inductive Kf where
  | sorted | min2 | max2 | min1 | max1
  deriving Inhabited, Repr, DecidableEq
inductive Tg where
  | var (i : Nat) | tup (ts : List Tg)
  deriving Inhabited, Repr

inductive Ex where
  | var (i : Nat)
  | con (x : D)
  | glob (g : Nat)
  | op (o : Op) (a b : Ex)
  | neg (a : Ex)
  | cmp (c : Cm) (a b : Ex)
  | chain (c c' : Cm) (a b e : Ex)
  | and (a b : Ex)
  | or (a b : Ex)
  | not (a : Ex)
  | ite (c a b : Ex)
  | tup (es : List Ex)
  | rep (es : List Ex)
  | lst (cell : Bool) (es : List Ex)
  | dct (t cell : Bool) (kvs : List Ex)
  | ix (a b : Ex)
  | sl (a : Ex) (lo hi : Option Ex)
  | fld (a : Ex) (f : Nat) (cs : List Nat)
  | call (f : Nat) (as : List Ex)
  | callv (i : Nat) (as : List Ex)
  | meth (o : Ex) (tab : List (Nat × Nat)) (as : List Ex)
  | make (c f : Nat) (as : List Ex)
  | bf (b : Bf) (cell : Bool) (as : List Ex)
  | bm (m : Bm) (o : Ex) (as : List Ex)
  | lc (cell : Bool) (e : Ex) (t : Tg) (own : List Nat) (k : Ik) (its : List Ex) (c : Option Ex)
  | dc (cell : Bool) (e v : Ex) (t : Tg) (own : List Nat) (k : Ik) (its : List Ex) (c : Option Ex)
  | sc (cell : Bool) (e : Ex) (t : Tg) (own : List Nat) (k : Ik) (its : List Ex) (c : Option Ex)
  | kf (b : Kf) (f : Nat) (cell : Bool) (as : List Ex)
  deriving Inhabited, Repr

inductive St where
  | asg (t : Tg) (e : Ex)
  | sub (o i e : Ex)
  | fld (o : Ex) (f : Nat) (cs : List Nat) (e : Ex)
  | fldaug (a : Ex) (f : Nat) (cs : List Nat) (o : Op) (e : Ex)
  | daug (d k : Ex) (o : Op) (e : Ex)
  | par (i j : Nat) (a b : Ex)
  | aug (i : Nat) (o : Op) (e : Ex)
  | expr (e : Ex)
  | ret (e : Ex)
  | ifs (c : Ex) (a b : List St)
  | whl (c : Ex) (b : List St)
  | fors (t : Tg) (k : Ik) (its : List Ex) (b : List St)
  | brk | cnt | pass
  | frz (xs : List Nat)
  /-- never reached -/
  | stop
  deriving Inhabited, Repr

/-- a def: the number of its slots, its parameters first -/
structure Df where
  slots : Nat
  params : Nat
  body : List St
  keep : Bool
  alone : Bool := false
  init : Bool := false
  /-- it has keyword-only parameters: how many values are written, the names of the keywords, what stands for each keyword-only parameter (none: the keyword's value) -/
  kw : Bool := false
  kws : List (Nat × List Str × List (Option D)) := []
  deriving Inhabited, Repr

/-- what stands at the module's level -/
structure Gm where
  con : Nat → D
  defs : Nat → Option Df
  fuel : Nat

/-- a def that can be called by a name that holds it -/
def Gm.callable (G : Gm) (f : Nat) : Bool := match G.defs f with
  | some d => !d.init && !d.kw
  | none => false
/-! ### operations -/
mutual
/-- bools as the ints that they count as -/
def nz : D → D
  | .bl b => .int (if b then 1 else 0)
  | .tup xs => .tup (nzs xs)
  | .lst xs => .lst (nzs xs)
  | x => x
def nzs : List D → List D
  | [] => []
  | x :: xs => nz x :: nzs xs
end
mutual
/-- made of None, bools, ints, texts, lists, tuples alone, not too deep -/
def isData : Nat → D → Bool
  | _, .non => true
  | _, .bl _ => true
  | _, .int _ => true
  | _, .str s => s.all fun c => decide (c < 1114112)
  | n, .tup xs => match n with
    | 0 => false
    | n + 1 => isDatas n xs
  | n, .lst xs => match n with
    | 0 => false
    | n + 1 => isDatas n xs
  | _, _ => false
def isDatas : Nat → List D → Bool
  | _, [] => true
  | n, x :: xs => isData n x && isDatas n xs
end
def isFlat : D → Bool
  | .non => true
  | .bl _ => true
  | .int _ => true
  | .str _ => true
  | _ => false
mutual
def D.beq : D → D → Bool
  | .non, y => match y with | .non => true | _ => false
  | .bl a, y => match y with | .bl b => a == b | _ => false
  | .int a, y => match y with | .int b => decide (a = b) | _ => false
  | .str a, y => match y with | .str b => decide (a = b) | _ => false
  | .fn a, y => match y with | .fn b => a == b | _ => false
  | .tup a, y => match y with | .tup b => D.beqs a b | _ => false
  | .lst a, y => match y with | .lst b => D.beqs a b | _ => false
  | .scr a, y => match y with | .scr b => decide (a = b) | _ => false
  | .dct t a c, y => match y with | .dct u b d => t == u && D.beqs a b && D.beqs c d | _ => false
  | .ins c n a, y => match y with | .ins c' n' b => c == c' && decide (n = n') && D.beqs a b | _ => false
  | .wd a c, y => match y with | .wd b d => decide (a = b) && D.beqs c d | _ => false
def D.beqs : List D → List D → Bool
  | [], y => match y with | [] => true | _ => false
  | x :: xs, z => match z with | y :: ys => D.beq x y && D.beqs xs ys | _ => false
end
/-- Python's == on data -/
def eqv (x y : D) : Bool := D.beq (nz x) (nz y)

mutual
/-- as the library's own plain data -/
def toPy : D → PyData
  | .non => .none
  | .bl b => .bool b
  | .int i => .int i
  | .str s => .str ⟨s.toArray⟩
  | .tup xs => .tuple (toPys xs)
  | .lst xs => .list (toPys xs)
  | _ => .none
def toPys : List D → List PyData
  | [] => []
  | x :: xs => toPy x :: toPys xs
end
/-- two data that Python's < can hold against each other, place by place -/
def alikeD (a b : D) : Bool := PySem.W.alike (toPy a) (toPy b)
def ltDt (a b : D) : Bool := PySem.W.dataLt (toPy a) (toPy b)
def noneD : D → Bool
  | .non => true
  | _ => false
def ordOk (a b : D) : Bool := isData 64 a && isData 64 b && alikeD a b && !noneD a
def isTup1 : D → Bool
  | .tup (_ :: _) => true
  | _ => false
def isTup0 : D → Bool
  | .tup _ => true
  | _ => false
/-- what sorted takes -/
def sortOk (ds : List D) : Bool := ds.all (fun a => isData 64 a && ds.all fun b => alikeD a b) && (ds.all isTup1 || ds.all fun d => !noneD d && !isTup0 d)
def leDt (a b : D) : Bool := !ltDt b a

/-- what divides -/
def big : Int := 2 ^ 200
def most : Nat := 16777216

def cut {α : Type} (xs : List α) (lo hi : Option Int) : List α := (xs.drop (HT.sIx xs.length 0 lo)).take (HT.sIx xs.length xs.length hi - HT.sIx xs.length 0 lo)

/-- the items of a list or a tuple, also of one in a cell -/
def seqOf (v : Vl) (S : Sto) : Option (List Vl) :=
  match v with
  | .d (.lst xs) => some (xs.map .d)
  | .d (.tup xs) => some (xs.map .d)
  | .d (.scr ns) => some (ns.map fun i => .d (.int i))
  | .p n => match S[n]? with
    | some (.lst xs) => some xs
    | _ => none
  | _ => none
def listOf (v : Vl) (S : Sto) : Option (List Vl) :=
  match v with
  | .d (.lst xs) => some (xs.map .d)
  | .p n => match S[n]? with
    | some (.lst xs) => some xs
    | _ => none
  | _ => none
def Vl.pure? : Vl → Option D
  | .d x => some x
  | .p _ => none
def pures : List Vl → Option (List D)
  | [] => some []
  | v :: vs => match v, pures vs with
    | .d x, some xs => some (x :: xs)
    | _, _ => none

def cMul (i j : Int) : Bool := (decide (-(2 ^ 64) < i) && decide (i < 2 ^ 64)) || (decide (-(2 ^ 64) < j) && decide (j < 2 ^ 64))
def cPow (i j : Int) : Bool := decide (0 ≤ j) && decide (j ≤ 1000000) && decide (i.natAbs < 2 ^ 64)

/-- two ints that bear C -/
def opI (C : Int → Int → Bool) (g : Int → Int → Int) (x y : Vl) (S : Sto) : Res Vl :=
  match x with
  | .d (.int i) => match y with
    | .d (.int j) => if C i j then .ok (.d (.int (g i j))) S else .bad
    | _ => .bad
  | _ => .bad
def catL (x y : Vl) (S : Sto) : Res Vl :=
  match listOf x S, listOf y S with
    | some a, some b => match pures a, pures b with
      | some a, some b => if decide (a.length + b.length ≤ most) then .ok (.d (.lst (a ++ b))) S else .bad
      | _, _ => .bad
    | _, _ => .bad
def opAdd (x y : Vl) (S : Sto) : Res Vl :=
  match x with
  | .d (.int i) => match y with
    | .d (.int j) => .ok (.d (.int (i + j))) S
    | _ => .bad
  | .d (.str a) => match y with
    | .d (.str b) => if decide (a.length + b.length ≤ most) then .ok (.d (.str (a ++ b))) S else .bad
    | _ => .bad
  | .d (.tup a) => match y with
    | .d (.tup b) => if decide (a.length + b.length ≤ most) then .ok (.d (.tup (a ++ b))) S else .bad
    | _ => .bad
  | x => catL x y S
def repL (x : Vl) (k : Int) (S : Sto) : Res Vl :=
  match listOf x S with
  | some a => match pures a with
    | some a => if decide (-(2 ^ 63) ≤ k) && decide (k < 2 ^ 63) && decide (a.length * k.toNat ≤ most) then .ok (.d (.lst (List.replicate k.toNat a).flatten)) S else .bad
    | none => .bad
  | none => .bad
def opMul (x y : Vl) (S : Sto) : Res Vl :=
  match y with
  | .d (.int j) => match x with
    | .d (.int i) => if cMul i j then .ok (.d (.int (i * j))) S else .bad
    | x => repL x j S
  | _ => .bad
def binop (o : Op) (x y : Vl) (S : Sto) : Res Vl :=
  match o with
  | .add => opAdd x y S
  | .sub => opI (fun _ _ => true) (fun i j => i - j) x y S
  | .mul => opMul x y S
  | .fdiv => opI (fun _ j => decide (0 < j) && decide (j < big)) (fun i j => i / j) x y S
  | .mod => opI (fun _ j => decide (0 < j)) (fun i j => i % j) x y S
  | .pow => opI cPow (fun i j => i ^ j.toNat) x y S
  | .shl => opI cPow (fun i j => i * 2 ^ j.toNat) x y S

def isNone : Vl → Bool
  | .d .non => true
  | _ => false
/-- data, also of a list in a cell -/
def dataOf (v : Vl) (S : Sto) : Option D :=
  match v with
  | .d x => some x
  | .p n => match S[n]? with
    | some (.lst xs) => (pures xs).map .lst
    | _ => none
def eqOk (a b : D) : Bool := (isFlat a && isFlat b) || (isData 64 a && isData 64 b)
def flatKey : D → Bool
  | .int _ => true
  | .str _ => true
  | _ => false
/-- a key of a dict of ints and texts; of one of tuples of these -/
def keyOk (t : Bool) : D → Bool
  | .int _ => !t
  | .str _ => !t
  | .tup xs => t && xs.all flatKey
  | _ => false
def kvFind {α : Type} (kvs : List (D × α)) (k : D) : Option α := (kvs.find? fun kv => eqv kv.1 k).map (·.2)
def kvPut {α : Type} (kvs : List (D × α)) (k : D) (v : α) : List (D × α) :=
  if kvs.any (fun kv => eqv kv.1 k) then kvs.map (fun kv => if eqv kv.1 k then (kv.1, v) else kv) else kvs ++ [(k, v)]
/-- what a dict of the module's top has at a text -/
def wdFind {α : Type} (ks : List Tx) (vs : List α) (z : Tx) : Option α := ((ks.zip vs).find? fun p => decide (p.1 = z)).map (·.2)
def memFlat (x : D) (ds : List D) : Option Bool := if isFlat x && ds.all isFlat then some (ds.any fun e => eqv e x) else none
def contains (x y : Vl) (S : Sto) : Option Bool :=
  match x with
  | .p _ => none
  | .d x => match seqOf y S with
    | some xs => match pures xs with
      | some ds => match memFlat x ds with
        | some b => some b
        | none => if (listOf y S).isSome && isData 64 x && isData 64 (.lst ds) then some (ds.any fun e => eqv e x) else none
      | none => none
    | none => match y with
      | .d (.str z) => match x with
        | .str [c] => some (decide (c ∈ z))
        | _ => none
      | _ => none
/-- texts by code points -/
def ltTx (a b : Tx) : Bool := decide (a < b)
mutual
/-- Python's < on ints, texts, tuples, lists of these -/
def ltD : D → D → Option Bool
  | .int i, .int j => some (decide (i < j))
  | .str a, .str b => some (ltTx a b)
  | .tup a, .tup b => ltDs a b
  | .lst a, .lst b => ltDs a b
  | _, _ => none
def ltDs : List D → List D → Option Bool
  | [], [] => some false
  | [], _ :: _ => some true
  | _ :: _, [] => some false
  | x :: xs, y :: ys => if eqv x y then ltDs xs ys else ltD x y
end
def cEqv (neg : Bool) (x y : Vl) (S : Sto) : Res Vl :=
  match dataOf x S, dataOf y S with
    | some a, some b => if eqOk a b then .ok (.d (.bl (if neg then !eqv a b else eqv a b))) S else .bad
    | _, _ => .bad
/-- ints, texts -/
def cOrd (f : Int → Int → Bool) (g : Tx → Tx → Bool) (h : D → D → Bool) (x y : Vl) (S : Sto) : Res Vl :=
  match x with
  | .d (.tup a) => match y with
    | .d (.tup b) => if ordOk (.tup a) (.tup b) then .ok (.d (.bl (h (.tup a) (.tup b)))) S else .bad
    | _ => .bad
  | .d (.lst a) => match y with
    | .d (.lst b) => if ordOk (.lst a) (.lst b) then .ok (.d (.bl (h (.lst a) (.lst b)))) S else .bad
    | _ => .bad
  | .d (.int i) => match y with
    | .d (.int j) => .ok (.d (.bl (f i j))) S
    | _ => .bad
  | .d (.str i) => match y with
    | .d (.str j) => .ok (.d (.bl (g i j))) S
    | _ => .bad
  | _ => .bad
def cIs (neg : Bool) (x y : Vl) (S : Sto) : Res Vl :=
  match y with
    | .d .non => .ok (.d (.bl (if neg then !isNone x else isNone x))) S
    | .d (.bl b) => match x with
      | .d (.bl a) => .ok (.d (.bl (if neg then !decide (a = b) else decide (a = b)))) S
      | .d .non => .ok (.d (.bl neg)) S
      | _ => .bad
    | _ => .bad
/-- a key in a dict -/
def inDct (x y : Vl) (S : Sto) : Option Bool :=
  match x with
  | .p _ => none
  | .d k => match y with
    | .d (.dct t ks vs) => if keyOk t k && ks.length == vs.length then some (kvFind (ks.zip vs) k).isSome else none
    | .d (.wd ks vs) => match k with
      | .str z => some (wdFind ks vs z).isSome
      | _ => none
    | .p n => match S[n]? with
      | some (.dct t kvs) => if keyOk t k then some (kvFind kvs k).isSome else none
      | _ => none
    | _ => none
def inAny (x y : Vl) (S : Sto) : Option Bool := match inDct x y S with
  | some b => some b
  | none => contains x y S
def cMem (neg : Bool) (x y : Vl) (S : Sto) : Res Vl :=
  match inAny x y S with
  | some b => .ok (.d (.bl (if neg then !b else b))) S
  | none => .bad
def cmpop (c : Cm) (x y : Vl) (S : Sto) : Res Vl :=
  match c with
  | .eq => cEqv false x y S
  | .ne => cEqv true x y S
  | .lt => cOrd (fun i j => decide (i < j)) ltTx ltDt x y S
  | .gt => cOrd (fun i j => decide (j < i)) (fun a b => ltTx b a) (fun a b => ltDt b a) x y S
  | .le => cOrd (fun i j => decide (i ≤ j)) (fun a b => !ltTx b a) (fun a b => !ltDt b a) x y S
  | .ge => cOrd (fun i j => decide (j ≤ i)) (fun a b => !ltTx a b) (fun a b => !ltDt a b) x y S
  | .is => cIs false x y S
  | .isn => cIs true x y S
  | .mem => cMem false x y S
  | .nmem => cMem true x y S

def truthy (v : Vl) (S : Sto) : Option Bool :=
  match v with
  | .d .non => some false
  | .d (.bl b) => some b
  | .d (.int i) => some (i != 0)
  | .d (.str s) => if decide (s.length ≤ most) then some ((s.length : Int) != 0) else none
  | .d (.lst xs) => some (!xs.isEmpty)
  | .d (.tup xs) => some (!xs.isEmpty)
  | .d (.dct t ks vs) => if !t && ks.length == vs.length then some (!ks.isEmpty) else none
  | .p n => match S[n]? with
    | some (.lst xs) => some (!xs.isEmpty)
    | some (.dct t kvs) => if !t then some (!kvs.isEmpty) else none
    | _ => none
  | _ => none

def index (x i : Vl) (S : Sto) : Res Vl :=
  match x, i with
  | .d (.lst xs), .d (.int i) => match atI xs i with
    | some y => .ok (.d y) S
    | none => .bad
  | .d (.tup xs), .d (.int i) => match atI xs i with
    | some y => .ok (.d y) S
    | none => .bad
  | .d (.str xs), .d (.int i) => if decide (xs.length ≤ most) then (match atI xs i with
    | some c => .ok (.d (.str [c])) S
    | none => .bad) else .bad
  | .d (.dct t ks vs), .d k => if keyOk t k then (match kvFind (ks.zip vs) k with
    | some y => .ok (.d y) S
    | none => .bad) else .bad
  | .d (.wd ks vs), .d (.str z) => match wdFind ks vs z with
    | some y => .ok (.d y) S
    | none => .bad
  | .p n, .d k => match S[n]? with
    | some (.lst xs) => match k with
      | .int i => match atI xs i with
        | some y => .ok y S
        | none => .bad
      | _ => .bad
    | some (.dct t kvs) => if keyOk t k then (match kvFind kvs k with
      | some y => .ok y S
      | none => .bad) else .bad
    | _ => .bad
  | _, _ => .bad
def sliceL (x : Vl) (lo hi : Option Int) (S : Sto) : Res Vl :=
  match listOf x S with
    | some a => match pures a with
      | some a => .ok (.d (.lst (cut a lo hi))) S
      | none => .bad
    | none => .bad
def slice (x : Vl) (lo hi : Option Int) (S : Sto) : Res Vl :=
  match x with
  | .d (.str s) => if decide (s.length ≤ most) then .ok (.d (.str (cut s lo hi))) S else .bad
  | .d (.tup xs) => .ok (.d (.tup (cut xs lo hi))) S
  | x => sliceL x lo hi S
def kwFind {α : Type} (fs : List (Nat × α)) (f : Nat) : Option α := (fs.find? fun p => p.1 == f).map (·.2)
def kwPut {α : Type} : List (Nat × α) → Nat → α → List (Nat × α)
  | [], f, v => [(f, v)]
  | (g, x) :: r, f, v => if g = f then (g, v) :: r else (g, x) :: kwPut r f v
def field (x : Vl) (f : Nat) (cs : List Nat) (S : Sto) : Res Vl :=
  match x with
  | .p n => match S[n]? with
    | some (.ins c fs) => if cs.contains c then (match kwFind fs f with
      | some v => .ok v S
      | none => .bad) else .bad
    | _ => .bad
  | .d (.ins c ns vs) => if cs.contains c then (match kwFind (ns.zip vs) f with
    | some v => .ok (.d v) S
    | none => .bad) else .bad
  | _ => .bad
/-- the class of an instance, if it has no field of the name -/
def clsOf (x : Vl) (S : Sto) : Option Nat :=
  match x with
  | .p n => match S[n]? with
    | some (.ins c _) => some c
    | _ => none
  | .d (.ins c _ _) => some c
  | _ => none

/-- a new list, in a cell or as data -/
def newList (cell : Bool) (vs : List Vl) (S : Sto) : Res Vl :=
  if decide (vs.length ≤ most) then
    if cell then .ok (.p S.length) (S ++ [.lst vs])
    else match pures vs with
      | some ds => .ok (.d (.lst ds)) S
      | none => .bad
  else .bad

/-- a new dict -/
def newDct (t cell : Bool) (kvs : List (D × Vl)) (S : Sto) : Res Vl :=
  if cell then .ok (.p S.length) (S ++ [.dct t kvs])
  else match pures (kvs.map (·.2)) with
    | some ds => .ok (.d (.dct t (kvs.map (·.1)) ds)) S
    | none => .bad
def kvMerge (kvs : List (D × Vl)) : List (D × Vl) := kvs.foldl (fun acc kv => kvPut acc kv.1 kv.2) []
/-- keys and values in turn -/
def pairUp : List Vl → Option (List (D × Vl))
  | [] => some []
  | .d k :: v :: r => (pairUp r).map ((k, v) :: ·)
  | _ => none
def dispDct (t cell : Bool) (vs : List Vl) (S : Sto) : Res Vl :=
  match vs with
  | [] => newDct t cell [] S
  | vs => match pairUp vs with
    | some kvs => if !t && kvs.all (fun kv => keyOk false kv.1) && decide (kvs.length ≤ 15) then newDct false cell (kvMerge kvs) S else .bad
    | none => .bad
/-- the types of isinstance: 0 int, 1 str, 2 list, 3 tuple, 4 bool; what a value's type is a part of -/
def typeOf (v : Vl) (S : Sto) : Option (List Nat) :=
  match v with
  | .d .non => some []
  | .d (.bl _) => some [0, 4]
  | .d (.int _) => some [0]
  | .d (.str _) => some [1]
  | .d (.lst _) => some [2]
  | .d (.tup _) => some [3]
  | .p n => match S[n]? with
    | some (.lst _) => some [2]
    | _ => none
  | _ => none
def isTypes (v : Vl) (S : Sto) (ts : List Nat) : Option Bool := (typeOf v S).map fun k => ts.any fun t => k.contains t
def intL : List D → Option (List Int)
  | [] => some []
  | .int i :: r => (intL r).map (i :: ·)
  | _ => none
def boolL : List D → Option (List Bool)
  | [] => some []
  | .bl i :: r => (boolL r).map (i :: ·)
  | _ => none
def textL : List D → Option (List Tx)
  | [] => some []
  | .str i :: r => (textL r).map (i :: ·)
  | _ => none
/-- the keys of a dict of ints and texts -/
def keysOf (v : Vl) (S : Sto) : Option (List D) :=
  match v with
  | .d (.dct t ks vs) => if !t && ks.length == vs.length then some ks else none
  | .p n => match S[n]? with
    | some (.dct t kvs) => if !t then some (kvs.map (·.1)) else none
    | _ => none
  | _ => none
def bLen (v : Vl) (S : Sto) : Res Vl :=
  match seqOf v S with
  | some xs => .ok (.d (.int xs.length)) S
  | none => match v with
    | .d (.str s) => if decide (s.length ≤ most) then .ok (.d (.int s.length)) S else .bad
    | v => match keysOf v S with
      | some ks => .ok (.d (.int ks.length)) S
      | none => .bad
def bInt (v : Vl) (S : Sto) : Res Vl :=
  match v with
  | .d (.int i) => .ok (.d (.int i)) S
  | .d (.bl b) => .ok (.d (.int (if b then 1 else 0))) S
  | _ => .bad
def bAbs (v : Vl) (S : Sto) : Res Vl :=
  match v with
  | .d (.int i) => .ok (.d (.int (if i < 0 then -i else i))) S
  | _ => .bad
def bList (cell : Bool) (v : Vl) (S : Sto) : Res Vl :=
  match seqOf v S with
  | some xs => newList cell xs S
  | none => match keysOf v S with
    | some ks => newList cell (ks.map .d) S
    | none => .bad
def bTuple (v : Vl) (S : Sto) : Res Vl :=
  match v with
  | .d (.tup xs) => .ok (.d (.tup xs)) S
  | _ => match listOf v S with
    | some xs => match pures xs with
      | some ds => .ok (.d (.tup ds)) S
      | none => .bad
    | none => .bad
/-- a list of plain values of one kind -/
def bOf {τ : Type} (f : List D → Option τ) (g : τ → D) (v : Vl) (S : Sto) : Res Vl :=
  match listOf v S with
  | some xs => match pures xs with
    | some ds => match f ds with
      | some t => .ok (.d (g t)) S
      | none => .bad
    | none => .bad
  | none => .bad
def bSorted (cell : Bool) (v : Vl) (S : Sto) : Res Vl :=
  match listOf v S with
  | some xs => match pures xs with
    | some ds => if sortOk ds then newList cell ((ds.mergeSort leDt).map .d) S else .bad
    | none => .bad
  | none => .bad
/-- ints in order, each once -/
def sins (x : Int) : List Int → List Int
  | [] => [x]
  | y :: l => if x < y then x :: y :: l else if x = y then y :: l else y :: sins x l
def ssort (ns : List Int) : List Int := ns.foldr sins []
/-- sorted(set(xs)) -/
def bSset (cell : Bool) (v : Vl) (S : Sto) : Res Vl :=
  match listOf v S with
  | some xs => match pures xs with
    | some ds => match intL ds with
      | some ns => if decide (ns.length < 63) then newList cell ((ssort ns).map fun i => .d (.int i)) S else .bad
      | none => .bad
    | none => .bad
  | none => .bad
/-! ### what is shown -/
mutual
/-- data as the claims have it; none: not to be shown here -/
def pyD : D → Option PyData
  | .non => some .none
  | .bl b => some (.bool b)
  | .int i => if decide (i.natAbs < 10 ^ 77) then some (.int i) else none
  | .str s => if s.all fun c => decide (c < 16 ^ 8) then some (.str ⟨s.toArray⟩) else none
  | .tup ds => (pyDs ds).map .tuple
  | .lst ds => (pyDs ds).map .list
  | .dct false ks ds => match pyDs ks, pyDs ds with
    | some a, some b => some (.dict (a.zip b))
    | _, _ => none
  | _ => none
def pyDs : List D → Option (List PyData)
  | [] => some []
  | d :: ds => match pyD d, pyDs ds with
    | some a, some b => some (a :: b)
    | _, _ => none
end
mutual
/-- a bound of the shown text -/
def wPy : PyData → Nat
  | .none => 4
  | .bool _ => 5
  | .int _ => 78
  | .str x => 10 * x.length + 2
  | .list xs => wPys xs + 2
  | .tuple xs => wPys xs + 3
  | .dict kvs => wPyk kvs + 2
def wPys : List PyData → Nat
  | [] => 0
  | x :: xs => wPy x + 2 + wPys xs
def wPyk : List (PyData × PyData) → Nat
  | [] => 0
  | (k, v) :: r => wPy k + wPy v + 4 + wPyk r
end
mutual
/-- what can be shown -/
def okPy : PyData → Bool
  | .none => true
  | .bool _ => true
  | .int i => decide (i.natAbs < 10 ^ 77)
  | .str x => x.cps.toList.all fun c => decide (c < 16 ^ 8)
  | .list xs => okPys xs
  | .tuple xs => okPys xs
  | .dict kvs => okPyk kvs
def okPys : List PyData → Bool
  | [] => true
  | x :: xs => okPy x && okPys xs
def okPyk : List (PyData × PyData) → Bool
  | [] => true
  | (k, v) :: r => okPy k && okPy v && okPyk r
end
/-- the text of what is shown -/
def shT (p : PyData) : Tx := (PyData.shown p).cps.toList
/-- a value with what its cells hold -/
def deep (S : Sto) : Nat → Vl → Option D
  | _, .d x => some x
  | 0, .p _ => none
  | n + 1, .p i => match S[i]? with
    | some (.lst xs) => (deeps S n xs).map .lst
    | some (.dct t kvs) => (deeps S n (kvs.map (·.2))).map (.dct t (kvs.map (·.1)))
    | _ => none
where
  deeps (S : Sto) : Nat → List Vl → Option (List D)
  | _, [] => some []
  | n, x :: xs => match deep S n x, deeps S n xs with
    | some d, some ds => some (d :: ds)
    | _, _ => none
def fits (p : PyData) : Bool := decide (wPy p ≤ 16777216) && decide (p.depth ≤ 60)
/-- repr([..]) -/
def bRep (vs : List Vl) (S : Sto) : Res Vl :=
  match deep.deeps S 8 vs with
  | some ds => match pyDs ds with
    | some ps => if fits (.list ps) then .ok (.d (.str (shT (.list ps)))) S else .bad
    | none => .bad
  | none => .bad
def isBox : D → Bool
  | .lst _ => true
  | .tup _ => true
  | .dct _ _ _ => true
  | _ => false
/-- repr(x) of a list, a tuple, a dict -/
def bRepr (v : Vl) (S : Sto) : Res Vl :=
  match deep S 8 v with
  | some d => if isBox d then (match pyD d with
    | some p => if fits p then .ok (.d (.str (shT p))) S else .bad
    | none => .bad) else .bad
  | none => .bad
/-- dict(d): a copy -/
def bDict (cell : Bool) (v : Vl) (S : Sto) : Res Vl :=
  match v with
  | .d (.dct false ks ds) => newDct false cell (ks.zip (ds.map .d)) S
  | .p n => match S[n]? with
    | some (.dct false kvs) => newDct false cell kvs S
    | _ => .bad
  | _ => .bad
def bIsi (ts : List Nat) (v : Vl) (S : Sto) : Res Vl :=
  match isTypes v S ts with
  | some b => .ok (.d (.bl b)) S
  | none => .bad
def builtin (b : Bf) (cell : Bool) (as : List Vl) (S : Sto) : Res Vl :=
  match as with
  | [v] => match b with
    | .len => bLen v S
    | .abs => bAbs v S
    | .int => bInt v S
    | .list => bList cell v S
    | .tuple => bTuple v S
    | .sum => bOf intL (fun is => .int is.sum) v S
    | .any => bOf boolL (fun bs => .bl (bs.any id)) v S
    | .all => bOf boolL (fun bs => .bl (bs.all id)) v S
    | .isinst ts => bIsi ts v S
    | .sorted => bSorted cell v S
    | .sset => bSset cell v S
    | .repr => bRepr v S
    | .dict => bDict cell v S
    | _ => .bad
  | [v, w] => match b with
    | .min => opI (fun _ _ => true) (fun i j => if j < i then j else i) v w S
    | .max => opI (fun _ _ => true) (fun i j => if j > i then j else i) v w S
    | .gcd => opI (fun _ _ => true) (fun i j => ((Nat.gcd i.natAbs j.natAbs : Nat) : Int)) v w S
    | _ => .bad
  | _ => .bad

def mk (s : Tx) : Str := ⟨s.toArray⟩
def un (s : Str) : Tx := s.cps.toList
def tx1 (f : Str → Str → D) (a b : Vl) (S : Sto) : Res Vl :=
  match a with
  | .d (.str a) => match b with
    | .d (.str b) => .ok (.d (f (mk a) (mk b))) S
    | _ => .bad
  | _ => .bad
def mAppend (o v : Vl) (S : Sto) : Res Vl :=
  match o with
  | .p n => match S[n]? with
    | some (.lst xs) => if decide (xs.length < most) then .ok (.d .non) (S.set n (.lst (xs ++ [v]))) else .bad
    | _ => .bad
  | _ => .bad
def mExtend (o v : Vl) (S : Sto) : Res Vl :=
  match o with
  | .p n => match S[n]? with
    | some (.lst xs) => match listOf v S with
      | some ys => if decide (xs.length + ys.length ≤ most) then .ok (.d .non) (S.set n (.lst (xs ++ ys))) else .bad
      | none => .bad
    | _ => .bad
  | _ => .bad
def mPop (o : Vl) (S : Sto) : Res Vl :=
  match o with
  | .p n => match S[n]? with
    | some (.lst xs) => match xs[xs.length - 1]? with
      | some v => .ok v (S.set n (.lst xs.dropLast))
      | none => .bad
    | _ => .bad
  | _ => .bad
def mIndex (o v : Vl) (S : Sto) : Res Vl :=
  match listOf o S, v with
  | some xs, .d y => match pures xs with
    | some ds => if isData 64 (.lst ds) && isData 64 y then (match ds.findIdx? (fun e => eqv e y) with
      | some j => .ok (.d (.int (j : Int))) S
      | none => .bad) else .bad
    | none => .bad
  | _, _ => .bad
/-- where a text stands first in a text -/
def sIndex (o v : Vl) (S : Sto) : Res Vl :=
  match o with
  | .d (.str a) => match v with
    | .d (.str b) => match Builtin.Str.occurrences (mk a) (mk b) 0 (mk a).length 1 with
      | i :: _ => .ok (.d (.int (i : Nat))) S
      | [] => .bad
    | _ => .bad
  | _ => .bad
def mJoin (o v : Vl) (S : Sto) : Res Vl :=
  match o with
  | .d (.str sep) => match listOf v S with
    | some xs => match pures xs with
      | some ds => match textL ds with
        | some ts => if decide ((ts.map List.length).sum + ts.length * sep.length ≤ most) then .ok (.d (.str (un (Txt.join (mk sep) (ts.map mk))))) S else .bad
        | none => .bad
      | none => .bad
    | none => .bad
  | _ => .bad
def isStr : Vl → Bool
  | .d (.str _) => true
  | _ => false
/-- what a dict has at a key -/
def getOf (o : Vl) (k : D) (S : Sto) : Option (Option Vl) :=
  match o with
  | .d (.dct t ks vs) => if keyOk t k && ks.length == vs.length then some ((kvFind (ks.zip vs) k).map .d) else none
  | .p n => match S[n]? with
    | some (.dct t kvs) => if keyOk t k then some (kvFind kvs k) else none
    | _ => none
  | _ => none
def isDct (o : Vl) (S : Sto) : Bool :=
  match o with
  | .d (.dct _ _ _) => true
  | .p n => match S[n]? with
    | some (.dct _ _) => true
    | _ => false
  | _ => false
def mGet (o k d : Vl) (S : Sto) : Res Vl :=
  match k with
  | .d k => match getOf o k S with
    | some (some v) => .ok v S
    | some none => .ok d S
    | none => .bad
  | _ => .bad
/-- the object is of the type whose method this is -/
def bmTy (m : Bm) (o : Vl) (S : Sto) : Bool :=
  match m with
  | .append => (listOf o S).isSome
  | .extend => (listOf o S).isSome
  | .pop => (listOf o S).isSome
  | .indexL => (listOf o S).isSome
  | .index => (listOf o S).isSome || isStr o
  | .get => isDct o S
  | _ => isStr o
def method (m : Bm) (o : Vl) (as : List Vl) (S : Sto) : Res Vl :=
  match as with
  | [] => match m with
    | .pop => mPop o S
    | _ => .bad
  | [v] => match m with
    | .append => mAppend o v S
    | .extend => mExtend o v S
    | .join => mJoin o v S
    | .indexL => mIndex o v S
    | .indexS => sIndex o v S
    | .index => if isStr o then sIndex o v S else mIndex o v S
    | .count => tx1 (fun a b => .int (Txt.count a b)) o v S
    | .rfind => tx1 (fun a b => .int (Txt.rfind a b)) o v S
    | .startswith => tx1 (fun a b => .bl (Txt.startswith a b)) o v S
    | .get => mGet o v (.d .non) S
    | _ => .bad
  | [v, w] => match m with
    | .get => mGet o v w S
    | _ => .bad
  | _ => .bad

/-- the items of what is walked, and the cell that is shut meanwhile -/
def lockOf (v : Vl) (S : Sto) : Option (Nat × Cell) := match v with
    | .p n => (S[n]?).map fun c => (n, c)
    | _ => none
def rngs (i j : Int) : List Vl := (List.range (j - i).toNat).map fun (n : Nat) => .d (.int (i + (n : Int)))
def inRng (i : Int) : Bool := decide (-(2 ^ 62) ≤ i) && decide (i < 2 ^ 62)
def rng2 (u v : Vl) : Option (List Vl) :=
  match u with
  | .d (.int i) => match v with
    | .d (.int j) => if inRng i && inRng j then some (rngs i j) else none
    | _ => none
  | _ => none
def walked (k : Ik) (as : List Vl) (S : Sto) : Option (List Vl × Option (Nat × Cell)) :=
  match as with
  | [v] => match k with
    | .seq => match v with
      | .d (.str s) => some (s.map fun c => .d (.str [c]), none)
      | v => (seqOf v S).map fun xs => (xs, lockOf v S)
    | .range => match v with
      | .d (.int n) => if decide (-(2 ^ 62) ≤ n) && decide (n < 2 ^ 62) then some ((List.range n.toNat).map fun (i : Nat) => .d (.int (i : Int)), none) else none
      | _ => none
    | .rev => (listOf v S).map fun xs => (xs.reverse, lockOf v S)
    | .enum => match listOf v S with
      | some xs => match pures xs with
        | some ds => some (((List.range ds.length).zip ds).map fun p => .d (.tup [.int (p.1 : Int), p.2]), lockOf v S)
        | none => none
      | none => none
    | _ => none
  | [u, v] => match k with
    | .range => (rng2 u v).map fun xs => (xs, none)
    | _ => none
  | _ => none

mutual
def bindT : Tg → Vl → Env → Option Env
  | .var i, v, ρ => some (ρ.set i (some v))
  | .tup ts, .d (.tup xs), ρ => bindTs ts xs ρ
  | .tup _, _, _ => none
def bindTs : List Tg → List D → Env → Option Env
  | [], [], ρ => some ρ
  | t :: ts, x :: xs, ρ => match bindT t (.d x) ρ with
    | some ρ' => bindTs ts xs ρ'
    | none => none
  | _, _, _ => none
end

def walkF (k : Ik) (vs : List Vl) (S : Sto) : Res (List Vl × Option (Nat × Cell)) := match walked k vs S with
  | some q => .ok q S
  | none => .bad
mutual
def Tg.slots : Tg → List Nat
  | .var i => [i]
  | .tup ts => Tg.slotss ts
def Tg.slotss : List Tg → List Nat
  | [] => []
  | t :: ts => t.slots ++ Tg.slotss ts
end

def fillE : List (Option D) → List Ex → List Ex
  | [], _ => []
  | some d :: q, bs => .con d :: fillE q bs
  | none :: q, b :: bs => b :: fillE q bs
  | none :: _, [] => []
def fillV : List (Option D) → List Vl → List Vl
  | [], _ => []
  | some d :: q, bs => .d d :: fillV q bs
  | none :: q, b :: bs => b :: fillV q bs
  | none :: _, [] => []
/-- the same for any lists: the defaults' values ahead -/
def fillG {α : Type} : List (Option D) → List α → List α → List α
  | [], _, _ => []
  | some _ :: q, m :: ms, ws => m :: fillG q ms ws
  | some _ :: _, [], _ => []
  | none :: q, ms, w :: ws => w :: fillG q ms ws
  | none :: _, _, [] => []
def holes (q : List (Option D)) : Nat := (q.filter fun o => o.isNone).length
/-! ### expressions -/
def pick (v : Option Vl) (S : Sto) : Res Vl := match v with
  | some v => .ok v S
  | none => .bad
def tru (v : Vl) (S : Sto) : Res Bool := match truthy v S with
  | some b => .ok b S
  | none => .bad
def lock (S : Sto) : Option (Nat × Cell) → Sto
  | some (n, _) => S.set n .dead
  | none => S
def unlock (S : Sto) : Option (Nat × Cell) → Sto
  | some (n, c) => S.set n c
  | none => S
def wipe (ρ : Env) : List Nat → Env
  | [] => ρ
  | v :: vs => (wipe ρ vs).set v none
/-- the turns of a comprehension: what is made so far ahead of what is to come -/
def turns (f : Env → Sto → Res (Option Vl)) (t : Tg) (ρ : Env) : List Vl → List Vl → Sto → Res (List Vl)
  | [], acc, S => .ok acc S
  | v :: vs, acc, S => match bindT t v ρ with
    | none => .bad
    | some ρ' => match f ρ' S with
      | .ok (some y) S' => if decide (acc.length < most) then turns f t ρ vs (acc ++ [y]) S' else .bad
      | .ok none S' => turns f t ρ vs acc S'
      | _ => .bad

/-- the turns of a comprehension that puts what it makes into A -/
def turnsG {A B : Type} (put : A → B → Option A) (f : Env → Sto → Res (Option B)) (t : Tg) (ρ : Env) : List Vl → A → Sto → Res A
  | [], acc, S => .ok acc S
  | v :: vs, acc, S => match bindT t v ρ with
    | none => .bad
    | some ρ' => match f ρ' S with
      | .ok (some y) S' => match put acc y with
        | some acc' => turnsG put f t ρ vs acc' S'
        | none => .bad
      | .ok none S' => turnsG put f t ρ vs acc S'
      | _ => .bad
def putD (acc : List (D × Vl)) (y : D × Vl) : Option (List (D × Vl)) := if keyOk false y.1 && decide (acc.length < most) then some (kvPut acc y.1 y.2) else none
def putI (acc : List Int) (y : Vl) : Option (List Int) := match y with
  | .d (.int i) => if decide (acc.length < 63) then some (sins i acc) else none
  | _ => none
def keyVal (k v : Vl) (S : Sto) : Res (D × Vl) := match k with
  | .d k => .ok (k, v) S
  | .p _ => .bad

/-- behind __init__ -/
def made (n : Nat) (r : Res Vl) : Res Vl := match r with
  | .ok (.d .non) S => .ok (.p n) S
  | .exc e S => .exc e S
  | _ => .bad
/-- the keys of values, one after the other -/
def keysRun (rc : Nat → List Vl → Sto → Res Vl) (f : Nat) : List D → Sto → Res (List D)
  | [], S => .ok [] S
  | d :: ds, S => match rc f [.d d] S with
    | .ok (.d k) S' => match keysRun rc f ds S' with
      | .ok ks S2 => .ok (k :: ks) S2
      | _ => .bad
    | _ => .bad
/-- items by keys, stably -/
def sortBy (ks ds : List D) : List D := ((ks.zip ds).mergeSort fun p q => leDt p.1 q.1).map (·.2)
/-- sorted(xs, key=f) -/
def keyedSort (rc : Nat → List Vl → Sto → Res Vl) (f : Nat) (cell : Bool) (v : Vl) (S : Sto) : Res Vl :=
  match listOf v S with
  | some xs => match pures xs with
    | some ds => (keysRun rc f ds S).bind fun ks S => if sortOk ks then newList cell ((sortBy ks ds).map .d) S else .bad
    | none => .bad
  | none => .bad
/-- the first of the least, by keys -/
def bestOf : List (D × D) → Option (D × D)
  | [] => none
  | p :: l => some (l.foldl (fun b q => if ltDt q.1 b.1 then q else b) p)
def keyedBest (rc : Nat → List Vl → Sto → Res Vl) (f : Nat) (ds : List D) (S : Sto) : Res Vl :=
  (keysRun rc f ds S).bind fun ks S => if sortOk ks then (match bestOf (ks.zip ds) with
    | some (_, d) => .ok (.d d) S
    | none => .bad) else .bad
/-- the first of the greatest, by keys -/
def bestMax : List (D × D) → Option (D × D)
  | [] => none
  | p :: l => some (l.foldl (fun b q => if ltDt b.1 q.1 then q else b) p)
def keyedMax (rc : Nat → List Vl → Sto → Res Vl) (f : Nat) (ds : List D) (S : Sto) : Res Vl :=
  (keysRun rc f ds S).bind fun ks S => if sortOk ks then (match bestMax (ks.zip ds) with
    | some (_, d) => .ok (.d d) S
    | none => .bad) else .bad
def keyed (rc : Nat → List Vl → Sto → Res Vl) (b : Kf) (f : Nat) (cell : Bool) (vs : List Vl) (S : Sto) : Res Vl :=
  match b, vs with
  | .sorted, [v] => keyedSort rc f cell v S
  | .min2, [.d x, .d y] => keyedBest rc f [x, y] S
  | .min1, [.d (.lst ds)] => keyedBest rc f ds S
  | .max2, [.d x, .d y] => keyedMax rc f [x, y] S
  | .max1, [.d (.lst ds)] => keyedMax rc f ds S
  | _, _ => .bad
mutual
def ev (G : Gm) (rc : Nat → List Vl → Sto → Res Vl) : Ex → Env → Sto → Res Vl
  | .var i, ρ, S => pick ((ρ[i]?).bind id) S
  | .con x, _, S => .ok (.d x) S
  | .glob g, _, S => .ok (.d (G.con g)) S
  | .op o a b, ρ, S => (ev G rc a ρ S).bind fun x S => (ev G rc b ρ S).bind fun y S => binop o x y S
  | .neg a, ρ, S => (ev G rc a ρ S).bind fun x S => match x with
    | .d (.int i) => .ok (.d (.int (-i))) S
    | _ => .bad
  | .cmp c a b, ρ, S => (ev G rc a ρ S).bind fun x S => (ev G rc b ρ S).bind fun y S => cmpop c x y S
  | .chain c c' a b e, ρ, S => (ev G rc a ρ S).bind fun x S => (ev G rc b ρ S).bind fun y S => (cmpop c x y S).bind fun r S => match r with
    | .d (.bl true) => (ev G rc e ρ S).bind fun z S => cmpop c' y z S
    | .d (.bl false) => .ok (.d (.bl false)) S
    | _ => .bad
  | .and a b, ρ, S => (ev G rc a ρ S).bind fun x S => (tru x S).bind fun k S => if k then ev G rc b ρ S else .ok x S
  | .or a b, ρ, S => (ev G rc a ρ S).bind fun x S => (tru x S).bind fun k S => if k then .ok x S else ev G rc b ρ S
  | .not a, ρ, S => (ev G rc a ρ S).bind fun x S => (tru x S).bind fun k S => .ok (.d (.bl (!k))) S
  | .ite c a b, ρ, S => (ev G rc c ρ S).bind fun x S => (tru x S).bind fun k S => if k then ev G rc a ρ S else ev G rc b ρ S
  | .tup es, ρ, S => (evs G rc es ρ S).bind fun vs S => match pures vs with
    | some ds => if decide (ds.length ≤ most) then .ok (.d (.tup ds)) S else .bad
    | none => .bad
  | .lst cell es, ρ, S => (evs G rc es ρ S).bind fun vs S => newList cell vs S
  | .rep es, ρ, S => (evs G rc es ρ S).bind fun vs S => bRep vs S
  | .dct t cell kvs, ρ, S => (evs G rc kvs ρ S).bind fun vs S => dispDct t cell vs S
  | .ix a b, ρ, S => (ev G rc a ρ S).bind fun x S => (ev G rc b ρ S).bind fun y S => index x y S
  | .sl a lo hi, ρ, S => (ev G rc a ρ S).bind fun x S => (evo G rc lo ρ S).bind fun l S => (evo G rc hi ρ S).bind fun h S => slice x l h S
  | .fld a f cs, ρ, S => (ev G rc a ρ S).bind fun x S => field x f cs S
  | .call f as, ρ, S => (evs G rc as ρ S).bind fun vs S => rc f vs S
  | .callv i as, ρ, S => match (ρ[i]?).bind id with
    | some (.d (.fn f)) => if G.callable f then (evs G rc as ρ S).bind fun vs S => rc f vs S else .bad
    | _ => .bad
  | .meth o tab as, ρ, S => (ev G rc o ρ S).bind fun x S => match (clsOf x S).bind fun c => List.lookup c tab with
    | some f => (evs G rc as ρ S).bind fun vs S => rc f (x :: vs) S
    | none => .bad
  | .make c f as, ρ, S => (evs G rc as ρ S).bind fun vs S => made S.length (rc f (.p S.length :: vs) (S ++ [.ins c []]))
  | .kf b f cell as, ρ, S => (evs G rc as ρ S).bind fun vs S => keyed rc b f cell vs S
  | .bf b cell as, ρ, S => (evs G rc as ρ S).bind fun vs S => builtin b cell vs S
  | .bm m o as, ρ, S => (ev G rc o ρ S).bind fun x S => if bmTy m x S then (evs G rc as ρ S).bind fun vs S => method m x vs S else .bad
  | .lc cell e t own k its c, ρ, S => ((evs G rc its ρ S).bind (walkF k)).bind fun q S =>
    (turns (fun ρ S => (evc G rc c ρ S).bind fun b S => if b then (ev G rc e ρ S).bind fun y S => .ok (some y) S else .ok none S) t (wipe ρ own) q.1 [] (lock S q.2)).bind fun ys S => newList cell ys (unlock S q.2)
  | .dc cell e v t own k its c, ρ, S => ((evs G rc its ρ S).bind (walkF k)).bind fun q S =>
    (turnsG putD (fun ρ S => (evc G rc c ρ S).bind fun b S => if b then ((ev G rc e ρ S).bind fun y S => (ev G rc v ρ S).bind fun z S => keyVal y z S).bind fun kv S => .ok (some kv) S else .ok none S) t (wipe ρ own) q.1 [] (lock S q.2)).bind fun ys S => newDct false cell ys (unlock S q.2)
  | .sc cell e t own k its c, ρ, S => ((evs G rc its ρ S).bind (walkF k)).bind fun q S =>
    (turnsG putI (fun ρ S => (evc G rc c ρ S).bind fun b S => if b then (ev G rc e ρ S).bind fun y S => .ok (some y) S else .ok none S) t (wipe ρ own) q.1 [] (lock S q.2)).bind fun ys S => newList cell (ys.map fun i => .d (.int i)) (unlock S q.2)
def evs (G : Gm) (rc : Nat → List Vl → Sto → Res Vl) : List Ex → Env → Sto → Res (List Vl)
  | [], _, S => .ok [] S
  | e :: es, ρ, S => (ev G rc e ρ S).bind fun v S => (evs G rc es ρ S).bind fun vs S => .ok (v :: vs) S
def evo (G : Gm) (rc : Nat → List Vl → Sto → Res Vl) : Option Ex → Env → Sto → Res (Option Int)
  | none, _, S => .ok none S
  | some e, ρ, S => (ev G rc e ρ S).bind fun v S => match v with
    | .d (.int i) => .ok (some i) S
    | _ => .bad
def evc (G : Gm) (rc : Nat → List Vl → Sto → Res Vl) : Option Ex → Env → Sto → Res Bool
  | none, _, S => .ok true S
  | some e, ρ, S => (ev G rc e ρ S).bind tru
end
end Z
end

section

/-! Z2: from the text's trees to the small language; the defs' runs. -/
namespace Z
open PySem L2

/-- what is known where a piece of text stands -/
structure Cs where
  N : List Str
  sc : Scope
  gd : List (Str × Nat)
  gc : List (Str × Nat)
  gb : List Str
  fl : List (Str × (Nat × List Nat))
  mt : List (Str × List (Nat × Nat))
  cells : List Str
  frz : List (Nat × List Nat)
  retc : Bool := false
  cls : List (Str × (Nat × Nat)) := []
  fcells : List Str := []
  tdl : List Nat := []
  rv : List (Str × Nat) := []
  wr : Option Scope := none
  gg : List Str := []
  kd : List (Str × (Nat × List (Nat × List Str × List (Option D)))) := []

def notStar : Expr → Bool
  | .Starred _ _ => false
  | _ => true
def findN (N : List Str) (x : Str) : Option Nat := N.findIdx? (· == x)
def visB (sc : Scope) (x : Str) : Bool := match sc.names.lookup x with
  | some .local => true
  | some .cell => true
  | some .free => true
  | _ => false
def locB (sc : Scope) (x : Str) : Bool := match sc.names.lookup x with
  | some .local => true
  | some .cell => true
  | _ => false
def ownB (sc : Option Scope) (x : Str) : Bool := match sc with
  | none => true
  | some sc => locB sc x
def glB (sc : Scope) (x : Str) : Bool := match sc.names.lookup x with
  | some .globalImplicit => true
  | _ => false
def cNm (C : Cs) (x : Str) : Option Nat := match findN C.N x with
  | some i => if visB C.sc x && !(x == ("__debug__" : Str)) && !(x == ("__classdict__" : Str)) then some i else none
  | none => none
def cOp : Operator → Option Op
  | .Add => some .add
  | .Sub => some .sub
  | .Mult => some .mul
  | .FloorDiv => some .fdiv
  | .Mod => some .mod
  | .Pow => some .pow
  | .LShift => some .shl
  | _ => none
def cCm : CmpOp → Option Cm
  | .Eq => some .eq
  | .NotEq => some .ne
  | .Lt => some .lt
  | .LtE => some .le
  | .Gt => some .gt
  | .GtE => some .ge
  | .Is => some .is
  | .IsNot => some .isn
  | .In => some .mem
  | .NotIn => some .nmem
def cTy (x : Str) : Option Nat :=
  if x == ("int" : Str) then some 0 else if x == ("str" : Str) then some 1 else if x == ("list" : Str) then some 2 else if x == ("tuple" : Str) then some 3 else if x == ("bool" : Str) then some 4 else none
def cBf (x : Str) : Option Bf :=
  if x == ("len" : Str) then some .len else if x == ("abs" : Str) then some .abs else if x == ("int" : Str) then some .int else if x == ("list" : Str) then some .list
  else if x == ("tuple" : Str) then some .tuple else if x == ("sum" : Str) then some .sum else if x == ("min" : Str) then some .min else if x == ("max" : Str) then some .max
  else if x == ("any" : Str) then some .any else if x == ("sorted" : Str) then some .sorted else if x == ("all" : Str) then some .all else none
/-- the name that an object goes by -/
def lastN : Expr → Option Str
  | .Name x _ => some x
  | .Attribute _ f _ => some f
  | .Call (.Attribute _ m _) _ _ _ => some m
  | _ => none
/-- the classes that an object of such a name can have -/
def rcvOk (C : Cs) (o : Expr) (c : Nat) : Bool := match (lastN o).bind fun x => C.rv.lookup x with
  | some c' => c == c'
  | none => true
/-- a dict's display, its keys and values in turn -/
def pairE : List (Option Expr) → List Expr → Option (List Expr)
  | [], [] => some []
  | some k :: ks, v :: vs => if notStar k && notStar v then (pairE ks vs).map fun r => k :: v :: r else none
  | _, _ => none
def isGet (m : Str) (as : List Expr) : Bool := m == ("get" : Str) && (match as with | [_] => true | [_, _] => true | _ => false)
/-- what takes key= -/
def kfOf (x : Str) (n : Nat) : Option Kf :=
  if x == ("sorted" : Str) && n == 1 then some .sorted else if x == ("min" : Str) && n == 1 then some .min1 else if x == ("min" : Str) && n == 2 then some .min2
  else if x == ("max" : Str) && n == 1 then some .max1 else if x == ("max" : Str) && n == 2 then some .max2 else none
theorem kfOf_pos {x : Str} {b : Kf} (h : kfOf x 0 = some b) : False := by
  unfold kfOf at h
  simp at h
/-- key=f, f a name -/
def keyOf : List Keyword → Option Str
  | [⟨some x, .Name g _, _⟩] => if x == ("key" : Str) then some g else none
  | _ => none
theorem keyOf_some {kws : List Keyword} {g : Str} (h : keyOf kws = some g) : ∃ p q, kws = [⟨some "key", .Name g p, q⟩] := by
  unfold keyOf at h
  split at h
  · split at h
    · rename_i e
      cases h
      exact ⟨_, _, by rw [beq_iff_eq.mp e]⟩
    · cases h
  · cases h
/-- sorted's argument is set(..) or a set comprehension -/
def isSetArg : List Expr → Bool
  | [.Call (.Name g _) [_] [] _] => g == ("set" : Str)
  | [.SetComp _ _ _ _] => true
  | _ => false
def cBm0 (x : Str) : Option Bm := if x == ("pop" : Str) then some .pop else none
def cBm1 (x : Str) : Option Bm :=
  if x == ("append" : Str) then some .append else if x == ("extend" : Str) then some .extend else if x == ("join" : Str) then some .join
  else if x == ("count" : Str) then some .count else if x == ("rfind" : Str) then some .rfind else if x == ("startswith" : Str) then some .startswith else if x == ("index" : Str) then some .index else none
/-- a built-in's name that the module leaves alone -/
def bltB (C : Cs) (x : Str) : Bool := glB C.sc x && C.gb.contains x && !(x == ("__debug__" : Str)) && !(x == ("__name__" : Str))
def seqO {α : Type} : List (Option α) → Option (List α)
  | [] => some []
  | o :: os => match o, seqO os with
    | some a, some as => some (a :: as)
    | _, _ => none
def foldB (f : Ex → Ex → Ex) : List Ex → Option Ex
  | [] => none
  | [e] => some e
  | e :: es => (foldB f es).map (f e)
def kwNames : List Keyword → Option (List Str)
  | [] => some []
  | ⟨some x, e, _⟩ :: r => if notStar e then (kwNames r).map (x :: ·) else none
  | ⟨none, _, _⟩ :: _ => none
/-- the shape of a call by keywords -/
def shape (C : Cs) (f : Str) (n : Nat) (ks : List Str) : Option (Nat × List (Option D)) := match C.kd.lookup f with
  | some (k, ss) => (ss.find? fun q => q.1 == n && q.2.1 == ks).map fun q => (k, q.2.2)
  | none => none
def isTyName (C : Cs) : Expr → Option Nat
  | .Name t _ => if bltB C t then cTy t else none
  | _ => none
mutual
/-- a target of names -/
def cTg (C : Cs) : Nat → Expr → Option Tg
  | 0, _ => none
  | n + 1, .Name x _ => match findN C.N x with
    | some i => if locB C.sc x && ownB C.wr x then some (.var i) else none
    | none => none
  | n + 1, .Tuple es _ _ => if es.all notStar then (cTgs C n es).map .tup else none
  | _, _ => none
def cTgs (C : Cs) : Nat → List Expr → Option (List Tg)
  | _, [] => some []
  | 0, _ => none
  | n + 1, e :: es => match cTg C n e, cTgs C n es with
    | some t, some ts => some (t :: ts)
    | _, _ => none
end
/-- the names of a target with their slots -/
def tgNames (C : Cs) : Nat → Expr → List (Str × Nat)
  | 0, _ => []
  | n + 1, .Name x _ => match findN C.N x with
    | some i => [(x, i)]
    | none => []
  | n + 1, .Tuple es _ _ => es.flatMap (tgNames C n)
  | _, _ => []
def blkB (C : Cs) (scope : Scope) (own : List (Str × Nat)) : Bool := blkC C.N C.sc scope own
/-- what enumerate and zip hand out goes to a tuple of names -/
def tgOk (tg : Expr) (k : Ik) : Bool := match k with
  | .enum => (match tg with | .Tuple _ _ _ => true | _ => false)
  | .zip => (match tg with | .Tuple _ _ _ => true | _ => false)
  | .items => (match tg with | .Tuple _ _ _ => true | _ => false)
  | _ => true
def notSet : Expr → Bool
  | .Set _ _ _ => false
  | _ => true
def noSuper : Expr → Bool
  | .Call (.Name id _) [] [] _ => !(id == ("super" : Str))
  | _ => true
def isSl : Expr → Bool
  | .Slice _ _ _ _ => true
  | _ => false
def optE (f : Expr → Option Ex) : Option Expr → Option (Option Ex)
  | none => some none
  | some e => (f e).map some
def condE (f : Expr → Option Ex) : List Expr → Option (Option Ex)
  | [] => some none
  | [c] => (f c).map some
  | _ => none
/-- the built-ins that are walked -/
def cIk (f : Str) (as : List Ex) : Option Ik := match as with
  | [_] => if f == ("range" : Str) then some .range else if f == ("reversed" : Str) then some .rev else if f == ("enumerate" : Str) then some .enum else none
  | [_, _] => if f == ("range" : Str) then some .range else none
  | _ => none
def cE (C : Cs) : Nat → Bool → Expr → Option Ex
  | 0, _, _ => none
  | n + 1, cell, e => match e with
    | .Constant (.int i) _ _ => some (.con (.int i))
    | .Constant (.bool b) _ _ => some (.con (.bl b))
    | .Constant .none _ _ => some (.con .non)
    | .Constant (.str x) _ _ => some (.con (.str x.cps.toList))
    | .Name x _ => match cNm C x with
      | some i => some (.var i)
      | none => if glB C.sc x && !(x == ("__debug__" : Str)) then (C.gc.lookup x).map .glob else none
    | .BinOp a op b _ => match cOp op, cE C n false a, cE C n false b with
      | some o, some a, some b => some (.op o a b)
      | _, _, _ => none
    | .UnaryOp .USub a _ => (cE C n false a).map .neg
    | .UnaryOp .Not a _ => (cE C n false a).map .not
    | .BoolOp .And es _ => match seqO (es.map (cE C n false)) with
      | some es => foldB .and es
      | none => none
    | .BoolOp .Or es _ => match seqO (es.map (cE C n false)) with
      | some es => foldB .or es
      | none => none
    | .IfExp c a b _ => match cE C n false c, cE C n cell a, cE C n cell b with
      | some c, some a, some b => some (.ite c a b)
      | _, _, _ => none
    | .Compare a [op] [b] _ => if behindInMarks op b then none else match cCm op, cE C n false a, cE C n false b with
      | some o, some a, some b => some (.cmp o a b)
      | _, _, _ => none
    | .Compare a [op, op'] [b, c] _ => if lastMarks [op, op'] [b, c] then none else match cCm op, cCm op', cE C n false a, cE C n false b, cE C n false c with
      | some o, some o', some a, some b, some c => some (.chain o o' a b c)
      | _, _, _, _, _ => none
    | .Tuple es _ _ => if es.all notStar then (seqO (es.map (cE C n false))).map .tup else none
    | .List es _ => if es.all notStar then (seqO (es.map (cE C n false))).map (.lst cell) else none
    | .Subscript a (.Slice lo hi none _) _ =>
      match cE C n false a, optE (cE C n false) lo, optE (cE C n false) hi with
      | some a, some lo, some hi => some (.sl a lo hi)
      | _, _, _ => none
    | .Subscript a b _ => if isSl b then none else match cE C n false a, cE C n false b with
      | some a, some b => some (.ix a b)
      | _, _ => none
    | .Dict keys values pos => if 15 < keys.length then none else match pairE keys values with
      | some es => (seqO (es.map (cE C n false))).map (.dct (C.tdl.contains pos.line) cell)
      | none => none
    | .Attribute o f _ => if noSuper o then match cE C n false o, C.fl.lookup f with
        | some o', some (k, cs) => some (.fld o' k (cs.filter (rcvOk C o)))
        | _, _ => none
      else none
    | .Call (.Name f fp) args [] _ =>
      if bltB C f && f == ("isinstance" : Str) then
        match args with
        | [x, .Tuple ts _ _] => if !notStar x then none else match cE C n false x, seqO (ts.map (isTyName C)) with
          | some x, some ts => if ts.length ≤ 100 then some (.bf (.isinst ts) false [x]) else none
          | _, _ => none
        | [x, t] => if !notStar x then none else match cE C n false x, isTyName C t with
          | some x, some t => some (.bf (.isinst [t]) false [x])
          | _, _ => none
        | _ => none
      else if bltB C f && f == ("sorted" : Str) && isSetArg args then
        match args with
        | [.SetComp elt [⟨tg, iter, ifs, asy⟩] scope _] =>
          let own := tgNames C n tg
          let C' : Cs := { C with sc := relS scope C.sc, wr := some scope }
          if blkB C scope own && notSet iter && decide (asy = 0) then
            match cIt C n iter, cTg C' n tg, cE C' n false elt, condE (cE C' n false) ifs with
            | some (k, its), some t, some e, some c => if t.slots.all (fun i => (own.map (·.2)).contains i) && tgOk tg k then some (.sc cell e t (own.map (·.2)) k its c) else none
            | _, _, _, _ => none
          else none
        | [.Call (.Name g _) [a] [] _] => if bltB C g && g == ("set" : Str) && notStar a then (cE C n false a).map fun a => .bf .sset cell [a] else none
        | _ => none
      else if bltB C f && f == ("dict" : Str) then
        match args with
        | [a] => if notStar a then (cE C n false a).map fun a => .bf .dict cell [a] else none
        | _ => none
      else if bltB C f && f == ("repr" : Str) then
        match args with
        | [.List es _] => if es.all notStar then (seqO (es.map (cE C n false))).map .rep else none
        | [a] => if notStar a then (cE C n false a).map fun a => .bf .repr cell [a] else none
        | _ => none
      else if args.all notStar then
        match seqO (args.map (cE C n false)) with
        | none => none
        | some as =>
          if glB C.sc f && !(f == ("__debug__" : Str)) then
            match C.gd.lookup f with
            | some k => some (.call k as)
            | none => match C.cls.lookup f with
            | some (c, k) => some (.make c k as)
            | none => match shape C f as.length [] with
              | some (k, q) => if !as.isEmpty && holes q == 0 then some (.call k (as ++ fillE q [])) else none
              | none => if bltB C f && !as.isEmpty then (cBf f).map fun b => .bf b cell as else if C.gg.contains f && !as.isEmpty then some (.bf .gcd cell as) else none
          else match cNm C f with
            | some i => if as.isEmpty then none else some (.callv i as)
            | none => none
      else none
    | .Call (.Name f fp) args kws _ =>
      match keyOf kws with
      | some g => if bltB C f && args.all notStar && glB C.sc g && !(g == ("__debug__" : Str)) then (match kfOf f args.length, C.gd.lookup g, seqO (args.map (cE C n false)) with
        | some b, some k, some as => some (.kf b k cell as)
        | _, _, _ => none) else none
      | none =>
      if args.all notStar && !args.isEmpty && glB C.sc f && !(f == ("__debug__" : Str)) then
        match kwNames kws, seqO (args.map (cE C n false)), seqO (kws.map fun k => cE C n false k.value) with
        | some ks, some as, some bs => match shape C f as.length ks with
          | some (k, q) => if holes q == bs.length then some (.call k (as ++ fillE q bs)) else none
          | none => none
        | _, _, _ => none
      else none
    | .Call (.Attribute o m apos) args [] cpos =>
      if args.all notStar && noSuper o then
        match cE C n false o, seqO (args.map (cE C n false)) with
        | some o', some as => match C.mt.lookup m with
          | some tab => if apos.endLine == cpos.line && decide (args.length < 30) && !(tab.filter fun p => rcvOk C o p.1).isEmpty then some (.meth o' (tab.filter fun p => rcvOk C o p.1) as) else none
          | none => if apos.endLine == cpos.line then (if isGet m args then some (.bm .get o' as) else (match as with | [] => cBm0 m | [_] => cBm1 m | _ => none).map fun b => .bm b o' as) else none
        | _, _ => none
      else none
    | .ListComp elt [⟨tg, iter, ifs, asy⟩] scope _ =>
      let own := tgNames C n tg
      let C' : Cs := { C with sc := relS scope C.sc, wr := some scope }
      if blkB C scope own && notSet iter && decide (asy = 0) then
        match cIt C n iter, cTg C' n tg, cE C' n cell elt, condE (cE C' n false) ifs with
        | some (k, its), some t, some e, some c => if t.slots.all (fun i => (own.map (·.2)).contains i) && tgOk tg k then some (.lc cell e t (own.map (·.2)) k its c) else none
        | _, _, _, _ => none
      else none
    | .DictComp ke ve [⟨tg, iter, ifs, asy⟩] scope _ =>
      let own := tgNames C n tg
      let C' : Cs := { C with sc := relS scope C.sc, wr := some scope }
      if blkB C scope own && notSet iter && decide (asy = 0) then
        match cIt C n iter, cTg C' n tg, cE C' n false ke, cE C' n false ve, condE (cE C' n false) ifs with
        | some (k, its), some t, some e, some v, some c => if t.slots.all (fun i => (own.map (·.2)).contains i) && tgOk tg k then some (.dc cell e v t (own.map (·.2)) k its c) else none
        | _, _, _, _, _ => none
      else none
    | _ => none
where
  /-- what a for walks -/
  cIt (C : Cs) (n : Nat) (e : Expr) : Option (Ik × List Ex) :=
    match n with
    | 0 => none
    | n + 1 => match e with
    | .Call (.Name f _) args [] _ =>
      if bltB C f && args.all notStar then
        match seqO (args.map (cE C n false)) with
        | none => none
        | some as =>
          match cIk f as with
          | some k => some (k, as)
          | none => (cE C n false e).map fun e => (.seq, [e])
      else (cE C n false e).map fun e => (.seq, [e])
    | _ => (cE C n false e).map fun e => (.seq, [e])
end Z
end

section

/-! Z3: statements, defs, runs. -/
namespace Z
open PySem L2

/-- a statement's end -/
inductive RS where
  | nx (ρ : Env) (S : Sto) | rt (v : Vl) (S : Sto) | bk (ρ : Env) (S : Sto) | ct (ρ : Env) (S : Sto) | exc (e : Exn) (ρ : Env) (S : Sto) | bad
  deriving Inhabited, Repr
def Res.thn {α : Type} (r : Res α) (ρ : Env) (f : α → Sto → RS) : RS :=
  match r with
  | .ok a S => f a S
  | .exc e S => .exc e ρ S
  | .bad => .bad
def RS.seq (r : RS) (f : Env → Sto → RS) : RS :=
  match r with
  | .nx ρ S => f ρ S
  | r => r
/-- the turns of a while -/
def whl (c : Env → Sto → Res Bool) (b : Env → Sto → RS) : Nat → Env → Sto → RS
  | 0, _, _ => .bad
  | n + 1, ρ, S => (c ρ S).thn ρ fun k S => if k then (match b ρ S with
      | .nx ρ S => whl c b n ρ S
      | .ct ρ S => whl c b n ρ S
      | .bk ρ S => .nx ρ S
      | r => r) else .nx ρ S
/-- the turns of a for -/
def fors (b : Env → Sto → RS) (t : Tg) : List Vl → Env → Sto → RS
  | [], ρ, S => .nx ρ S
  | v :: vs, ρ, S => match bindT t v ρ with
    | none => .bad
    | some ρ => match b ρ S with
      | .nx ρ S => fors b t vs ρ S
      | .ct ρ S => fors b t vs ρ S
      | .bk ρ S => .nx ρ S
      | r => r
def RS.mapS (f : Sto → Sto) : RS → RS
  | .nx ρ S => .nx ρ (f S)
  | .rt v S => .rt v (f S)
  | .bk ρ S => .bk ρ (f S)
  | .ct ρ S => .ct ρ (f S)
  | .exc e ρ S => .exc e ρ (f S)
  | .bad => .bad
/-- a cell's list as plain data; the cell is shut -/
def freeze (v : Vl) (S : Sto) : Option (D × Sto) :=
  match v with
  | .d x => some (x, S)
  | .p n => match S[n]? with
    | some (.lst xs) => match pures xs with
      | some ds => some (.lst ds, S.set n .dead)
      | none => none
    | some (.dct t kvs) => match pures (kvs.map (·.2)) with
      | some ds => some (.dct t (kvs.map (·.1)) ds, S.set n .dead)
      | none => none
    | _ => none
def frz : List Nat → Env → Sto → Option (Env × Sto)
  | [], ρ, S => some (ρ, S)
  | i :: is, ρ, S => match (ρ[i]?).bind id with
    | none => frz is ρ S
    | some v => match freeze v S with
      | some (d, S) => frz is (ρ.set i (some (.d d))) S
      | none => none
def setItem (o i v : Vl) (S : Sto) : Option Sto :=
  match o, i with
  | .p n, .d k => match S[n]? with
    | some (.lst xs) => match k with
      | .int i => (ixN xs.length i).map fun j => S.set n (.lst (xs.set j v))
      | _ => none
    | some (.dct t kvs) => if keyOk t k && decide (kvs.length < most) then some (S.set n (.dct t (kvPut kvs k v))) else none
    | _ => none
  | _, _ => none
def setField (o v : Vl) (f : Nat) (cs : List Nat) (S : Sto) : Option Sto :=
  match o with
  | .p n => match S[n]? with
    | some (.ins c fs) => if cs.contains c && decide (fs.length < 1000) then some (S.set n (.ins c (kwPut fs f v))) else none
    | _ => none
  | _ => none

def setItemD (o i v : Vl) (S : Sto) : Option Sto :=
  match o, i with
  | .p n, .d k => match S[n]? with
    | some (.dct t kvs) => if keyOk t k && decide (kvs.length < most) then some (S.set n (.dct t (kvPut kvs k v))) else none
    | _ => none
  | _, _ => none
/-- what a dict has at a key that is there -/
def dgetR (x i : Vl) (S : Sto) : Res Vl := match i with
  | .d k => match getOf x k S with
    | some (some v) => .ok v S
    | _ => .bad
  | _ => .bad
/-- x op= y: ints, texts -/
def augop (o : Op) (x y : Vl) (S : Sto) : Res Vl :=
  match o with
  | .add => match x with
    | .d (.int i) => match y with
      | .d (.int j) => .ok (.d (.int (i + j))) S
      | _ => .bad
    | .d (.str a) => match y with
      | .d (.str b) => if decide (a.length + b.length ≤ most) then .ok (.d (.str (a ++ b))) S else .bad
      | _ => .bad
    | _ => .bad
  | .sub => opI (fun _ _ => true) (fun i j => i - j) x y S
  | .mul => opI cMul (fun i j => i * j) x y S
  | .fdiv => opI (fun _ j => decide (0 < j) && decide (j < 1073741824)) (fun i j => i / j) x y S
  | .mod => opI (fun _ j => decide (0 < j)) (fun i j => i % j) x y S
  | .pow => .bad
  | .shl => opI cPow (fun i j => i * 2 ^ j.toNat) x y S
mutual
def ex (G : Gm) (rc : Nat → List Vl → Sto → Res Vl) : St → Env → Sto → RS
  | .asg t e, ρ, S => (ev G rc e ρ S).thn ρ fun v S => match bindT t v ρ with
    | some ρ => .nx ρ S
    | none => .bad
  | .sub o i e, ρ, S => (ev G rc e ρ S).thn ρ fun v S => (ev G rc o ρ S).thn ρ fun x S => (ev G rc i ρ S).thn ρ fun k S => match setItem x k v S with
    | some S => .nx ρ S
    | none => .bad
  | .fld o f cs e, ρ, S => (ev G rc e ρ S).thn ρ fun v S => (ev G rc o ρ S).thn ρ fun x S => match setField x v f cs S with
    | some S => .nx ρ S
    | none => .bad
  | .fldaug a f cs o e, ρ, S => (ev G rc a ρ S).thn ρ fun x S => (field x f cs S).thn ρ fun u S => (ev G rc e ρ S).thn ρ fun y S => (augop o u y S).thn ρ fun z S => match setField x z f cs S with
    | some S => .nx ρ S
    | none => .bad
  | .daug d k o e, ρ, S => (ev G rc d ρ S).thn ρ fun x S => (ev G rc k ρ S).thn ρ fun i S => (dgetR x i S).thn ρ fun u S => (ev G rc e ρ S).thn ρ fun y S => (augop o u y S).thn ρ fun z S => match setItemD x i z S with
    | some S => .nx ρ S
    | none => .bad
  | .par i j a b, ρ, S => (ev G rc a ρ S).thn ρ fun v S => (ev G rc b ρ S).thn ρ fun w S => .nx ((ρ.set i (some v)).set j (some w)) S
  | .aug i o e, ρ, S => (pick ((ρ[i]?).bind id) S).thn ρ fun x S => (ev G rc e ρ S).thn ρ fun y S => (augop o x y S).thn ρ fun z S => .nx (ρ.set i (some z)) S
  | .expr e, ρ, S => (ev G rc e ρ S).thn ρ fun _ S => .nx ρ S
  | .ret e, ρ, S => (ev G rc e ρ S).thn ρ fun v S => .rt v S
  | .ifs c a b, ρ, S => (ev G rc c ρ S).thn ρ fun x S => (tru x S).thn ρ fun k S => if k then exs G rc a ρ S else exs G rc b ρ S
  | .whl c b, ρ, S => whl (fun ρ S => (ev G rc c ρ S).bind tru) (exs G rc b) G.fuel ρ S
  | .fors t k its b, ρ, S => ((evs G rc its ρ S).bind (walkF k)).thn ρ fun q S => (fors (exs G rc b) t q.1 ρ (lock S q.2)).mapS fun S => unlock S q.2
  | .brk, ρ, S => .bk ρ S
  | .cnt, ρ, S => .ct ρ S
  | .pass, ρ, S => .nx ρ S
  | .stop, _, _ => .bad
  | .frz is, ρ, S => match frz is ρ S with
    | some (ρ, S) => .nx ρ S
    | none => .bad
def exs (G : Gm) (rc : Nat → List Vl → Sto → Res Vl) : List St → Env → Sto → RS
  | [], ρ, S => .nx ρ S
  | s :: ss, ρ, S => (ex G rc s ρ S).seq fun ρ S => exs G rc ss ρ S
end

/-- a value that holds no cell from n on -/
def Vl.below (n : Nat) : Vl → Bool
  | .d _ => true
  | .p m => decide (m < n)
def Cell.below (n : Nat) : Cell → Bool
  | .dead => true
  | .lst xs => xs.all (Vl.below n)
  | .dct _ kvs => kvs.all fun p => p.2.below n
  | .ins _ fs => fs.all fun p => p.2.below n
/-- behind a call: the answer as data, the cells that the call made gone -/
def leave (keep : Bool) (S₀ : Sto) (v : Vl) (S : Sto) : Res Vl :=
  if keep then .ok v S
  else match v with
    | .p n => if n < S₀.length then close v S else match freeze v S with
      | some (d, S) => close (.d d) S
      | none => .bad
    | v => close v S
where
  close (v : Vl) (S : Sto) : Res Vl :=
    let S' := S.take S₀.length
    if S'.length == S₀.length && (S'.all (Cell.below S₀.length)) && v.below S₀.length then .ok v S' else .bad
def dataO : Vl → Bool
  | .d _ => true
  | .p _ => false
/-- behind the call of a def that sees no cell of its caller -/
def goOut (S : Sto) (v : Vl) (S' : Sto) : Res Vl := match freeze v S' with
  | some (d, _) => .ok (.d d) S
  | none => .bad
/-- a def's run, by the depth of its calls; an __init__ runs one level lower, for its class's call takes one -/
def run (G : Gm) : Nat → Nat → List Vl → Sto → Res Vl
  | 0, _, _, _ => .bad
  | k + 1, f, as, S => match G.defs f with
    | none => .bad
    | some d => if as.length == d.params then
        if d.init then
          match k with
          | 0 => .bad
          | k + 1 => match exs G (run G k) d.body (as.map some ++ List.replicate (d.slots - d.params) none) S with
            | .nx _ S' => .ok (.d .non) S'
            | .exc e _ S' => .exc e S'
            | _ => .bad
        else if d.alone then
          if as.all dataO then
            match exs G (run G k) d.body (as.map some ++ List.replicate (d.slots - d.params) none) [] with
            | .nx _ _ => .ok (.d .non) S
            | .rt v S' => goOut S v S'
            | .exc e _ _ => .exc e S
            | _ => .bad
          else .bad
        else
        match exs G (run G k) d.body (as.map some ++ List.replicate (d.slots - d.params) none) S with
        | .nx _ S' => leave d.keep S (.d .non) S'
        | .rt v S' => leave d.keep S v S'
        | .exc e _ S' => .exc e S'
        | _ => .bad
      else .bad

/-! ### from the text -/
def frzAt (C : Cs) (l : Nat) : List St := match C.frz.lookup l with
  | some is => [.frz is]
  | none => []
def isTup : Expr → Bool
  | .Tuple _ _ _ => true
  | .List _ _ => true
  | _ => false
def isLc : Expr → Bool
  | .ListComp _ _ _ _ => true
  | .SetComp _ _ _ _ => true
  | .DictComp _ _ _ _ _ => true
  | _ => false
/-- x = [..]: the two forms that the model has -/
def lcOk (C : Cs) (x : Str) (px pos : Pos) : Expr → Bool
  | .ListComp elt gs scope p => match C.sc.names.lookup x with
    | some .local => (px.line == p.line) && (match C.sc.kind with | .function => true | _ => false) && !(scope.names.any fun (n, k) => n == x && (k == .local || k == .cell))
    | _ => true
  | .DictComp _ _ _ scope p => match C.sc.names.lookup x with
    | some .local => (px.line == p.line) && (match C.sc.kind with | .function => true | _ => false) && !(scope.names.any fun (n, k) => n == x && (k == .local || k == .cell))
    | _ => true
  | e => !isLc e
def parOf : List Expr → Expr → Option (Str × Pos × Str × Pos × Expr × Expr)
  | [.Name x px, .Name y py], .Tuple [a, b] _ _ => some (x, px, y, py, a, b)
  | _, _ => none
theorem parOf_some {ts : List Expr} {e : Expr} {x y : Str} {px py : Pos} {a b : Expr} (h : parOf ts e = some (x, px, y, py, a, b)) : ts = [.Name x px, .Name y py] ∧ ∃ k p, e = .Tuple [a, b] k p := by
  unfold parOf at h
  split at h
  · simp only [Option.some.injEq, Prod.mk.injEq] at h
    obtain ⟨rfl, rfl, rfl, rfl, rfl, rfl⟩ := h
    exact ⟨rfl, _, _, rfl⟩
  · cases h
/-- x, y = a, b: two different plain locals -/
def parB (C : Cs) (x y : Str) (px py : Pos) (a b : Expr) : Bool := !(x == y) && (match C.sc.names.lookup x with | some .local => true | _ => false) && (match C.sc.names.lookup y with | some .local => true | _ => false) &&
  ownB C.wr x && ownB C.wr y && notStar a && notStar b && (px.line == py.line) && (match C.sc.kind with | .function => true | _ => false) && !([a, b].all (foldedForSure 8)) && !([a, b].all (constantsAlone 8))
mutual
def cS (C : Cs) : Nat → Stmt → Option (List St)
  | 0, _ => none
  | n + 1, s => match s with
    | .Pass _ => some [.pass]
    | .Break _ => some [.brk]
    | .Continue _ => some [.cnt]
    | .Raise _ _ _ => some [.stop]
    | .Return none pos => some (frzAt C pos.line ++ [.ret (.con .non)])
    | .Return (some e) pos => (cE C n C.retc e).map fun e => frzAt C pos.line ++ [.ret e]
    | .Expr e pos => if isLc e then none else (cE C n false e).map fun e => frzAt C pos.line ++ [.expr e]
    | .Assign [.Name x px] e pos => match findN C.N x with
      | some i => if locB C.sc x && ownB C.wr x && lcOk C x px pos e then (cE C n (C.cells.contains x) e).map fun e => frzAt C pos.line ++ [.asg (.var i) e] else none
      | none => none
    | .Assign [.Tuple ts k p] e pos => match parOf ts e with
      | some (x, px, y, py, a, b) => if [a, b].all (foldedForSure 8) then (match cTg C n (.Tuple ts k p), cE C n false e with
        | some t, some e => some (frzAt C pos.line ++ [.asg t e])
        | _, _ => none) else (match findN C.N x, findN C.N y, cE C n false a, cE C n false b with
        | some i, some j, some a', some b' => if parB C x y px py a b then some (frzAt C pos.line ++ [.par i j a' b']) else none
        | _, _, _, _ => none)
      | none => if isTup e || isLc e then none else match cTg C n (.Tuple ts k p), cE C n false e with
        | some t, some e => some (frzAt C pos.line ++ [.asg t e])
        | _, _ => none
    | .Assign [.Subscript o i _] e pos => if isLc e || isSl i then none else match cE C n false o, cE C n false i, cE C n false e with
      | some o, some i, some e => some (frzAt C pos.line ++ [.sub o i e])
      | _, _, _ => none
    | .Assign [.Attribute o f _] e pos => if isLc e || !noSuper o then none else match cE C n false o, C.fl.lookup f, cE C n (C.fcells.contains f) e with
        | some o', some (k, cs), some e => some (frzAt C pos.line ++ [.fld o' k (cs.filter (rcvOk C o)) e])
        | _, _, _ => none
    | .AugAssign (.Attribute o f _) op e pos => match cE C n false o, C.fl.lookup f, cOp op, cE C n false e with
      | some o', some (k, cs), some op, some e => if noSuper o && (cs.filter (rcvOk C o)).length == 1 then some (frzAt C pos.line ++ [.fldaug o' k (cs.filter (rcvOk C o)) op e]) else none
      | _, _, _, _ => none
    | .AugAssign (.Subscript d i _) op e pos => if isSl i then none else match cE C n false d, cE C n false i, cOp op, cE C n false e with
      | some d, some i, some op, some e => some (frzAt C pos.line ++ [.daug d i op e])
      | _, _, _, _ => none
    | .AugAssign (.Name x _) op e pos => match findN C.N x, cOp op, cE C n false e with
      | some i, some o, some e => if locB C.sc x && ownB C.wr x then some (frzAt C pos.line ++ [.aug i o e]) else none
      | _, _, _ => none
    | .If c a b pos => match cE C n false c, cSs C n a, cSs C n b with
      | some c, some a, some b => some (frzAt C pos.line ++ [.ifs c a b])
      | _, _, _ => none
    | .While c b [] pos => match cE C n false c, cSs C n b with
      | some c, some b => some (frzAt C pos.line ++ [.whl c b])
      | _, _ => none
    | .For t' it b [] pos => match cTg C n t', cE.cIt C n it, cSs C n b with
      | some t, some (k, its), some b => if tgOk t' k && notSet it then some (frzAt C pos.line ++ [.fors t k its b]) else none
      | _, _, _ => none
    | _ => none
def cSs (C : Cs) : Nat → List Stmt → Option (List St)
  | _, [] => some []
  | 0, _ => none
  | n + 1, s :: ss => match cS C n s, cSs C n ss with
    | some a, some b => some (a ++ b)
    | _, _ => none
end
end Z
end

section

/-! Z4: how plain values lie in a heap. -/
namespace Z
open PySem L2

/-- where the text's own things lie -/
structure Wd where
  K : PySem.W.Frag
  fa : Nat → Addr
  ca : Nat → Addr
  nm : Nat → Str
  w : World

/-- a key as the heap's tables hold it -/
def keyK : D → Option Key
  | .int i => some (.inl i)
  | .str s => some (.inr ⟨s.toArray⟩)
  | _ => none
def keyKs : List D → Option (List Key)
  | [] => some []
  | d :: ds => match keyK d, keyKs ds with
    | some k, some ks => some (k :: ks)
    | _, _ => none
def keyT : D → Option (List Key)
  | .tup ds => keyKs ds
  | _ => none
/-- the dict at a: its keys, what stands at them -/
def DctR (H : Hp) (a : Addr) (t : Bool) (ks : List D) (ws : List V) : Prop :=
  (t = false ∧ ∃ kk : List Key, ks.map keyK = kk.map some ∧ kk.length = ws.length ∧ H a = some (.dK (kk.zip ws))) ∨
  (t = true ∧ ∃ kk : List (List Key), ks.map keyT = kk.map some ∧ kk.length = ws.length ∧ H a = some (.dT (kk.zip ws)))
theorem DctR.mono {H H' : Hp} {a a' : Addr} {t : Bool} {ks : List D} {ws : List V} (h : ∀ o, H a = some o → H' a' = some o) (r : DctR H a t ks ws) : DctR H' a' t ks ws := by
  rcases r with ⟨e, kk, h1, h2, h3⟩ | ⟨e, kk, h1, h2, h3⟩
  · exact .inl ⟨e, kk, h1, h2, h _ h3⟩
  · exact .inr ⟨e, kk, h1, h2, h _ h3⟩
theorem DctR.there {H : Hp} {a : Addr} {t : Bool} {ks : List D} {ws : List V} (r : DctR H a t ks ws) : ∃ o, H a = some o := by
  rcases r with ⟨e, kk, h1, h2, h3⟩ | ⟨e, kk, h1, h2, h3⟩
  · exact ⟨_, h3⟩
  · exact ⟨_, h3⟩
/-- the dict of the module's top at a: what stands at its text keys -/
def WdR (W : Wd) (a : Addr) (ks : List Tx) (us : List V) : Prop :=
  ks.length = us.length ∧ ∃ es n, W.K.lookup a = some ⟨.type "dict", none, .dict es n, #[]⟩ ∧ PySem.W.KeysLit W.w.params es.toList ∧ (a == sysModules) = false ∧
    ∀ z : Tx, ∃ r, PySem.W.nsIn W.K a ⟨z.toArray⟩ = some r ∧ RelO (wdFind ks us z) r
mutual
def Rp (W : Wd) (H : Hp) : D → V → Prop
  | .non, v => v = .non
  | .bl b, v => v = .bl b
  | .int i, v => v = .int i
  | .str s, v => v = .str ⟨s.toArray⟩
  | .fn f, v => v = .ref (W.fa f)
  | .tup ds, v => ∃ a vs, v = .ref a ∧ H a = some (.tup vs) ∧ Rps W H ds vs
  | .lst ds, v => ∃ a vs, v = .ref a ∧ H a = some (.lst vs) ∧ Rps W H ds vs
  | .scr ns, v => ∃ a, v = .ref a ∧ SqL W.K H a (ns.map V.int)
  | .dct t ks ds, v => ∃ a ws, v = .ref a ∧ DctR H a t ks ws ∧ Rps W H ds ws
  | .ins c ns ds, v => ∃ a dx vs, v = .ref a ∧ H a = some (.ins (W.ca c) dx ((ns.map W.nm).zip vs)) ∧ Rps W H ds vs
  | .wd ks ds, v => ∃ a us, v = .ref a ∧ WdR W a ks us ∧ Rps W H ds us
def Rps (W : Wd) (H : Hp) : List D → List V → Prop
  | [], vs => vs = []
  | d :: ds, vs => ∃ v r, vs = v :: r ∧ Rp W H d v ∧ Rps W H ds r
end

def Sub (F F' : Hp) : Prop := ∀ a o, F a = some o → F' a = some o
theorem Sub.refl (F : Hp) : Sub F F := fun _ _ h => h
theorem Sub.trans {F F' F'' : Hp} (a : Sub F F') (b : Sub F' F'') : Sub F F'' := fun x o h => b x o (a x o h)
theorem Sub.rd {F F' : Hp} (h : Sub F F') {a : Addr} {u : HO} (r : Rd F a u) : Rd F' a u := by
  rcases r with r | ⟨o, r⟩
  · exact .inl (h _ _ r)
  · exact .inr ⟨o, h _ _ r⟩
theorem Sub.sqL {F F' : Hp} (h : Sub F F') {K : PySem.W.Frag} {a : Addr} {xs : List V} (r : SqL K F a xs) : SqL K F' a xs := by
  rcases r with r | r
  · exact .inl (h.rd r)
  · exact .inr r
theorem Sub.sqT {F F' : Hp} (h : Sub F F') {K : PySem.W.Frag} {a : Addr} {xs : List V} (r : SqT K F a xs) : SqT K F' a xs := by
  rcases r with r | r
  · exact .inl (h.rd r)
  · exact .inr r
mutual
theorem Rp.mono {W : Wd} {F F' : Hp} (h : Sub F F') : ∀ {d : D} {v : V}, Rp W F d v → Rp W F' d v
  | .non, _, r => r
  | .bl _, _, r => r
  | .int _, _, r => r
  | .str _, _, r => r
  | .fn _, _, r => r
  | .tup ds, _, r => by
    obtain ⟨a, vs, e, q, t⟩ := r
    exact ⟨a, vs, e, h _ _ q, Rps.mono h t⟩
  | .lst ds, _, r => by
    obtain ⟨a, vs, e, q, t⟩ := r
    exact ⟨a, vs, e, h _ _ q, Rps.mono h t⟩
  | .scr ns, _, r => by
    obtain ⟨a, e, q⟩ := r
    exact ⟨a, e, h.sqL q⟩
  | .dct t ks ds, _, r => by
    obtain ⟨a, ws, e, q, z⟩ := r
    exact ⟨a, ws, e, q.mono (h a), Rps.mono h z⟩
  | .ins c ns ds, _, r => by
    obtain ⟨a, dx, vs, e, q, t⟩ := r
    exact ⟨a, dx, vs, e, h _ _ q, Rps.mono h t⟩
  | .wd ks ds, _, r => by
    obtain ⟨a, us, e, q, t⟩ := r
    exact ⟨a, us, e, q, Rps.mono h t⟩
theorem Rps.mono {W : Wd} {F F' : Hp} (h : Sub F F') : ∀ {ds : List D} {vs : List V}, Rps W F ds vs → Rps W F' ds vs
  | [], _, r => r
  | d :: ds, _, r => by
    obtain ⟨v, q, e, r1, r2⟩ := r
    exact ⟨v, q, e, Rp.mono h r1, Rps.mono h r2⟩
end
theorem Rps.length {W : Wd} {F : Hp} : ∀ {ds : List D} {vs : List V}, Rps W F ds vs → ds.length = vs.length
  | [], _, r => by cases (show _ = [] from r); rfl
  | d :: ds, _, r => by
    obtain ⟨v, q, e, r1, r2⟩ := r
    rw [e, List.length_cons, List.length_cons, Rps.length r2]

/-- a value in the heap: data in what is frozen, or the object of a cell -/
def VlR (W : Wd) (α : Nat → Addr) (F : Hp) (N : Nat) : Vl → V → Prop
  | .d x, v => Rp W F x v
  | .p n, v => v = .ref (α n) ∧ n < N
inductive VlRs (W : Wd) (α : Nat → Addr) (F : Hp) (N : Nat) : List Vl → List V → Prop
  | nil : VlRs W α F N [] []
  | cons {x : Vl} {v : V} {xs : List Vl} {vs : List V} : VlR W α F N x v → VlRs W α F N xs vs → VlRs W α F N (x :: xs) (v :: vs)
def CellOk (W : Wd) (α : Nat → Addr) (F : Hp) (N : Nat) (H : Hp) (a : Addr) : Cell → Prop
  | .dead => True
  | .lst xs => ∃ vs, H a = some (.lst vs) ∧ VlRs W α F N xs vs
  | .dct t kvs => ∃ ws, DctR H a t (kvs.map (·.1)) ws ∧ VlRs W α F N (kvs.map (·.2)) ws
  | .ins c fs => ∃ dx vs, H a = some (.ins (W.ca c) dx ((fs.map fun p => W.nm p.1).zip vs)) ∧ VlRs W α F N (fs.map (·.2)) vs
def Live (S : Sto) (n : Nat) : Prop := ∃ c, S[n]? = some c ∧ c ≠ .dead
/-- the state in the heap -/
structure Sr (W : Wd) (α : Nat → Addr) (F : Hp) (S : Sto) (H : Hp) : Prop where
  sub : Sub F H
  sep : ∀ n, Live S n → F (α n) = none
  inj : ∀ m n, Live S m → Live S n → α m = α n → m = n
  cel : ∀ n c, S[n]? = some c → CellOk W α F S.length H (α n) c
/-- what a piece of work leaves -/
structure Ext (α : Nat → Addr) (F : Hp) (S : Sto) (H : Hp) (α' : Nat → Addr) (F' : Hp) (S' : Sto) (H' : Hp) : Prop where
  al : ∀ n, n < S.length → α' n = α n
  len : S.length ≤ S'.length
  fr : Sub F F'
  frame : ∀ a o, H a = some o → (∀ n, Live S n → α n ≠ a) → H' a = some o
  new : ∀ n, S.length ≤ n → n < S'.length → H (α' n) = none
  lv : ∀ n, n < S.length → Live S' n → Live S n
  dom : ∀ a, H' a = none → H a = none
  fz : ∀ a o, F' a = some o → F a = none → H a = none ∨ ∃ n, Live S n ∧ α n = a
theorem Live.lt {S : Sto} {n : Nat} (h : Live S n) : n < S.length := by
  obtain ⟨c, e, _⟩ := h
  exact (List.getElem?_eq_some_iff.mp e).1
theorem Ext.refl {α : Nat → Addr} {F : Hp} {S : Sto} {H : Hp} : Ext α F S H α F S H :=
  ⟨fun _ _ => rfl, Nat.le_refl _, Sub.refl F, fun _ _ h _ => h, fun n h1 h2 => absurd (Nat.lt_of_lt_of_le h2 h1) (Nat.lt_irrefl _), fun _ _ h => h, fun _ h => h, fun _ o h h' => by rw [h'] at h; cases h⟩
theorem Ext.trans {α α1 α2 : Nat → Addr} {F F1 F2 : Hp} {S S1 S2 : Sto} {H H1 H2 : Hp} (x : Ext α F S H α1 F1 S1 H1) (y : Ext α1 F1 S1 H1 α2 F2 S2 H2) : Ext α F S H α2 F2 S2 H2 where
  al := fun n h => (y.al n (Nat.lt_of_lt_of_le h x.len)).trans (x.al n h)
  len := Nat.le_trans x.len y.len
  fr := x.fr.trans y.fr
  frame := fun a o h k => by
    refine y.frame a o (x.frame a o h k) fun n l e => ?_
    by_cases hn : n < S.length
    · exact k n (x.lv n hn l) (by rw [← x.al n hn]; exact e)
    · have := x.new n (Nat.le_of_not_lt hn) l.lt
      rw [e, h] at this
      cases this
  new := fun n h1 h2 => by
    by_cases hn : n < S1.length
    · rw [y.al n hn]; exact x.new n h1 hn
    · exact x.dom _ (y.new n (Nat.le_of_not_lt hn) h2)
  lv := fun n h l => x.lv n h (y.lv n (Nat.lt_of_lt_of_le h x.len) l)
  dom := fun a h => x.dom a (y.dom a h)
  fz := fun a o h h' => by
    cases q : F1 a with
    | some u => exact x.fz a u q h'
    | none =>
      rcases y.fz a o h q with z | ⟨n, l, e⟩
      · exact .inl (x.dom a z)
      · by_cases hn : n < S.length
        · exact .inr ⟨n, x.lv n hn l, by rw [← x.al n hn]; exact e⟩
        · have := x.new n (Nat.le_of_not_lt hn) l.lt
          rw [e] at this
          exact .inl this

section
variable {W : Wd} {α α' : Nat → Addr} {F F' : Hp} {S S' : Sto} {H H' : Hp} {N N' : Nat}
theorem VlR.mono (al : ∀ n, n < N → α' n = α n) (hN : N ≤ N') (fr : Sub F F') : ∀ {x : Vl} {v : V}, VlR W α F N x v → VlR W α' F' N' x v
  | .d _, _, r => Rp.mono fr r
  | .p n, _, r => by
    obtain ⟨e, h⟩ := r
    exact ⟨by rw [al n h]; exact e, Nat.lt_of_lt_of_le h hN⟩
theorem VlRs.mono (al : ∀ n, n < N → α' n = α n) (hN : N ≤ N') (fr : Sub F F') {xs : List Vl} {vs : List V} (r : VlRs W α F N xs vs) : VlRs W α' F' N' xs vs := by
  induction r with
  | nil => exact .nil
  | cons a _ ih => exact .cons (a.mono al hN fr) ih
theorem VlR.ext (x : Ext α F S H α' F' S' H') {v : Vl} {w : V} (r : VlR W α F S.length v w) : VlR W α' F' S'.length v w := r.mono x.al x.len x.fr
theorem VlRs.ext (x : Ext α F S H α' F' S' H') {v : List Vl} {w : List V} (r : VlRs W α F S.length v w) : VlRs W α' F' S'.length v w := r.mono x.al x.len x.fr
theorem VlRs.length {xs : List Vl} {vs : List V} (r : VlRs W α F N xs vs) : xs.length = vs.length := by
  induction r with
  | nil => rfl
  | cons _ _ ih => simp [ih]
theorem VlRs.append {xs ys : List Vl} {vs ws : List V} (r : VlRs W α F N xs vs) (q : VlRs W α F N ys ws) : VlRs W α F N (xs ++ ys) (vs ++ ws) := by
  induction r with
  | nil => exact q
  | cons a _ ih => exact .cons a ih
theorem VlRs.get {xs : List Vl} {vs : List V} (r : VlRs W α F N xs vs) : ∀ {i : Nat} {x : Vl}, xs[i]? = some x → ∃ v, vs[i]? = some v ∧ VlR W α F N x v := by
  induction r with
  | nil => intro i x h; simp at h
  | cons a _ ih =>
    intro i x h
    cases i with
    | zero => simp at h; subst h; exact ⟨_, rfl, a⟩
    | succ i => simpa using ih (by simpa using h)
theorem VlRs.getV {xs : List Vl} {vs : List V} (r : VlRs W α F N xs vs) : ∀ {i : Nat} {v : V}, vs[i]? = some v → ∃ x, xs[i]? = some x ∧ VlR W α F N x v := by
  induction r with
  | nil => intro i x h; simp at h
  | cons a _ ih =>
    intro i x h
    cases i with
    | zero => simp at h; subst h; exact ⟨_, rfl, a⟩
    | succ i => simpa using ih (by simpa using h)
theorem VlRs.set {xs : List Vl} {vs : List V} {x : Vl} {v : V} (r : VlRs W α F N xs vs) (q : VlR W α F N x v) : ∀ (i : Nat), VlRs W α F N (xs.set i x) (vs.set i v) := by
  induction r with
  | nil => intro i; exact .nil
  | cons a t ih =>
    intro i
    cases i with
    | zero => exact .cons q t
    | succ i => exact .cons a (ih i)
theorem VlRs.dropLast {xs : List Vl} {vs : List V} (r : VlRs W α F N xs vs) : VlRs W α F N xs.dropLast vs.dropLast := by
  induction r with
  | nil => exact .nil
  | cons a t ih =>
    cases t with
    | nil => exact .nil
    | cons b t => exact .cons a ih
theorem VlRs.reverse {xs : List Vl} {vs : List V} (r : VlRs W α F N xs vs) : VlRs W α F N xs.reverse vs.reverse := by
  induction r with
  | nil => exact .nil
  | cons a _ ih => rw [List.reverse_cons, List.reverse_cons]; exact ih.append (.cons a .nil)
theorem VlRs.of_pure : ∀ {ds : List D} {vs : List V}, Rps W F ds vs → VlRs W α F N (ds.map .d) vs
  | [], _, r => by cases (show _ = [] from r); exact .nil
  | d :: ds, _, r => by
    obtain ⟨v, q, e, r1, r2⟩ := r
    subst e
    exact .cons r1 (VlRs.of_pure r2)
theorem VlRs.pures {xs : List Vl} {vs : List V} (r : VlRs W α F N xs vs) : ∀ {ds : List D}, pures xs = some ds → Rps W F ds vs := by
  induction r with
  | nil => intro ds e; cases e; exact rfl
  | @cons x v xs vs a _ ih =>
    intro ds e
    unfold Z.pures at e
    cases x with
    | p n => simp at e
    | d x =>
      cases q : Z.pures xs with
      | none => rw [q] at e; simp at e
      | some es =>
        rw [q] at e
        simp at e
        subst e
        exact ⟨v, vs, rfl, a, ih q⟩
theorem Rps.get {xs : List D} : ∀ {vs : List V}, Rps W F xs vs → ∀ {i : Nat} {x : D}, xs[i]? = some x → ∃ v, vs[i]? = some v ∧ Rp W F x v := by
  induction xs with
  | nil => intro vs r i x h; simp at h
  | cons d ds ih =>
    intro vs r i x h
    obtain ⟨v, q, e, r1, r2⟩ := r
    subst e
    cases i with
    | zero => simp at h; subst h; exact ⟨_, rfl, r1⟩
    | succ i => simpa using ih r2 (by simpa using h)
theorem Rps.append : ∀ {xs ys : List D} {vs ws : List V}, Rps W F xs vs → Rps W F ys ws → Rps W F (xs ++ ys) (vs ++ ws)
  | [], _, _, _, r, q => by cases (show _ = [] from r); exact q
  | d :: ds, _, _, _, r, q => by
    obtain ⟨v, t, e, r1, r2⟩ := r
    subst e
    exact ⟨v, _, rfl, r1, Rps.append r2 q⟩
theorem Rps.take : ∀ {xs : List D} {vs : List V} (n : Nat), Rps W F xs vs → Rps W F (xs.take n) (vs.take n)
  | _, _, 0, _ => by rw [List.take_zero, List.take_zero]; rfl
  | [], _, n + 1, r => by cases (show _ = [] from r); rfl
  | d :: ds, _, n + 1, r => by
    obtain ⟨v, t, e, r1, r2⟩ := r
    subst e
    exact ⟨v, _, rfl, r1, Rps.take n r2⟩
theorem Rps.drop : ∀ {xs : List D} {vs : List V} (n : Nat), Rps W F xs vs → Rps W F (xs.drop n) (vs.drop n)
  | _, _, 0, r => r
  | [], _, n + 1, r => by cases (show _ = [] from r); rfl
  | d :: ds, _, n + 1, r => by
    obtain ⟨v, t, e, r1, r2⟩ := r
    subst e
    exact Rps.drop n r2
theorem CellOk.mono (al : ∀ n, n < N → α' n = α n) (hN : N ≤ N') (fr : Sub F F') {a : Addr} : ∀ {c : Cell}, (c ≠ .dead → ∀ o, H a = some o → H' a = some o) → CellOk W α F N H a c → CellOk W α' F' N' H' a c
  | .dead, _, _ => trivial
  | .lst xs, keep, h => by
    obtain ⟨vs, e, r⟩ := h
    exact ⟨vs, keep (fun z => nomatch z) _ e, r.mono al hN fr⟩
  | .dct t kvs, keep, h => by
    obtain ⟨ws, e, r⟩ := h
    exact ⟨ws, e.mono (keep (fun z => nomatch z)), r.mono al hN fr⟩
  | .ins c fs, keep, h => by
    obtain ⟨dx, vs, e, r⟩ := h
    exact ⟨dx, vs, keep (fun z => nomatch z) _ e, r.mono al hN fr⟩
theorem CellOk.there {a : Addr} : ∀ {c : Cell}, CellOk W α F N H a c → c ≠ .dead → ∃ o, H a = some o
  | .dead, _, h => absurd rfl h
  | .lst _, h, _ => by obtain ⟨vs, e, _⟩ := h; exact ⟨_, e⟩
  | .dct _ _, h, _ => by obtain ⟨ws, e, _⟩ := h; exact e.there
  | .ins _ _, h, _ => by obtain ⟨_, vs, e, _⟩ := h; exact ⟨_, e⟩
theorem Sr.there (s : Sr W α F S H) {n : Nat} (l : Live S n) : ∃ o, H (α n) = some o := by
  obtain ⟨c, e, h⟩ := l
  exact (s.cel n c e).there h

/-! ### the ways in which a state goes on -/
/-- a new frozen object -/
theorem Sr.newF (s : Sr W α F S H) {p : Addr} {o : HO} (hp : H p = none) : Sr W α (upd F p o) S (upd H p o) ∧ Ext α F S H α (upd F p o) S (upd H p o) := by
  have np : ∀ a u, H a = some u → a ≠ p := fun a u h => ne_of_none h hp
  have nf : ∀ a u, F a = some u → a ≠ p := fun a u h => np a u (s.sub a u h)
  have fr : Sub F (upd F p o) := fun a u h => by rw [upd_ne (nf a u h)]; exact h
  refine ⟨⟨fun a u h => ?_, fun n l => ?_, s.inj, fun n c e => ?_⟩, ⟨fun _ _ => rfl, Nat.le_refl _, fr, fun a u h _ => ?_, fun n h1 h2 => absurd (Nat.lt_of_lt_of_le h2 h1) (Nat.lt_irrefl _), fun _ _ h => h, fun a h => ?_, fun a u h h' => ?_⟩⟩
  · by_cases e : a = p
    · subst e; rw [upd_same] at h ⊢; exact h
    · rw [upd_ne e] at h ⊢; exact s.sub a u h
  · obtain ⟨u, h⟩ := s.there l
    rw [upd_ne (np _ u h)]
    exact s.sep n l
  · exact (s.cel n c e).mono (fun _ _ => rfl) (Nat.le_refl _) fr fun _ u h => by rw [upd_ne (np _ u h)]; exact h
  · rw [upd_ne (np a u h)]; exact h
  · by_cases e : a = p
    · subst e; rw [upd_same] at h; cases h
    · rw [upd_ne e] at h; exact h
  · by_cases e : a = p
    · subst e; exact .inl hp
    · rw [upd_ne e, h'] at h; cases h
theorem live_append {S : Sto} {c : Cell} {n : Nat} (h : Live (S ++ [c]) n) (hn : n ≠ S.length) : Live S n := by
  obtain ⟨c', e, hc⟩ := h
  have hl : n < (S ++ [c]).length := (List.getElem?_eq_some_iff.mp e).1
  rw [List.length_append, List.length_singleton] at hl
  rw [List.getElem?_append_left (by omega)] at e
  exact ⟨c', e, hc⟩
def adr (α : Nat → Addr) (n : Nat) (p : Addr) : Nat → Addr := fun m => if m = n then p else α m
theorem adr_same {n : Nat} {p : Addr} : adr α n p n = p := if_pos rfl
theorem adr_ne {n m : Nat} {p : Addr} (h : m ≠ n) : adr α n p m = α m := if_neg h
/-- a new cell -/
theorem Sr.newC (s : Sr W α F S H) {p : Addr} {o : HO} (hp : H p = none) {c : Cell} (hc : CellOk W (adr α S.length p) F (S.length + 1) (upd H p o) p c) :
    Sr W (adr α S.length p) F (S ++ [c]) (upd H p o) ∧ Ext α F S H (adr α S.length p) F (S ++ [c]) (upd H p o) := by
  have np : ∀ a u, H a = some u → a ≠ p := fun a u h => ne_of_none h hp
  have al : ∀ n, n < S.length → adr α S.length p n = α n := fun n h => adr_ne (Nat.ne_of_lt h)
  have len : (S ++ [c]).length = S.length + 1 := by simp
  have ap : ∀ n, Live S n → α n ≠ p := fun n l => by obtain ⟨u, h⟩ := s.there l; exact np _ u h
  refine ⟨⟨fun a u h => ?_, fun n l => ?_, fun m n lm ln e => ?_, fun n c' e => ?_⟩, ⟨al, by rw [len]; exact Nat.le_succ _, Sub.refl F, fun a u h _ => ?_, fun n h1 h2 => ?_, fun n h l => live_append l (Nat.ne_of_lt h), fun a h => ?_, fun a u h h' => by rw [h'] at h; cases h⟩⟩
  · rw [upd_ne (np a u (s.sub a u h))]; exact s.sub a u h
  · by_cases e : n = S.length
    · subst e
      rw [adr_same]
      cases q : F p with
      | none => rfl
      | some u => exact absurd rfl (np p u (s.sub p u q))
    · rw [adr_ne e]; exact s.sep n (live_append l e)
  · by_cases em : m = S.length <;> by_cases en : n = S.length
    · rw [em, en]
    · rw [em, adr_same, adr_ne en] at e
      exact absurd e.symm (ap n (live_append ln en))
    · rw [en, adr_same, adr_ne em] at e
      exact absurd e (ap m (live_append lm em))
    · rw [adr_ne em, adr_ne en] at e
      exact s.inj m n (live_append lm em) (live_append ln en) e
  · rw [len]
    by_cases en : n = S.length
    · subst en
      rw [List.getElem?_append_right (Nat.le_refl _)] at e
      simp at e
      subst e
      rw [adr_same]
      exact hc
    · have hl : n < (S ++ [c]).length := (List.getElem?_eq_some_iff.mp e).1
      rw [len] at hl
      rw [List.getElem?_append_left (by omega)] at e
      rw [adr_ne en]
      exact (s.cel n c' e).mono al (Nat.le_succ _) (Sub.refl F) fun _ u h => by rw [upd_ne (np _ u h)]; exact h
  · rw [upd_ne (np a u h)]; exact h
  · have e : n = S.length := by rw [len] at h2; omega
    subst e
    rw [adr_same]; exact hp
  · by_cases e : a = p
    · subst e; rw [upd_same] at h; cases h
    · rw [upd_ne e] at h; exact h
theorem live_set {S : Sto} {c : Cell} {n m : Nat} (hn : Live S n) (h : Live (S.set n c) m) : Live S m := by
  obtain ⟨c', e, hc⟩ := h
  by_cases q : n = m
  · exact q ▸ hn
  · rw [List.getElem?_set_ne q] at e
    exact ⟨c', e, hc⟩
/-- a cell's object changes -/
theorem Sr.setC (s : Sr W α F S H) {n : Nat} (hl : Live S n) {o : HO} {c : Cell} (hc : CellOk W α F S.length (upd H (α n) o) (α n) c) : Sr W α F (S.set n c) (upd H (α n) o) ∧ Ext α F S H α F (S.set n c) (upd H (α n) o) := by
  have len : (S.set n c).length = S.length := by simp
  refine ⟨⟨fun a u h => ?_, fun m l => s.sep m (live_set hl l), fun m k lm lk => s.inj m k (live_set hl lm) (live_set hl lk), fun m c' e => ?_⟩, ⟨fun _ _ => rfl, by rw [len]; exact Nat.le_refl _, Sub.refl F, fun a u h k => ?_, fun m h1 h2 => absurd (Nat.lt_of_lt_of_le h2 (by rw [len]; exact h1)) (Nat.lt_irrefl _), fun m _ l => live_set hl l, fun a h => ?_, fun a u h h' => by rw [h'] at h; cases h⟩⟩
  · have ne : a ≠ α n := fun e => by rw [e, s.sep n hl] at h; cases h
    rw [upd_ne ne]; exact s.sub a u h
  · rw [len]
    by_cases q : n = m
    · subst q
      rw [List.getElem?_set_self hl.lt] at e
      cases e
      exact hc
    · rw [List.getElem?_set_ne q] at e
      exact (s.cel m c' e).mono (fun _ _ => rfl) (Nat.le_refl _) (Sub.refl F) fun d u h => by
        rw [upd_ne fun z => q (s.inj m n ⟨c', e, d⟩ hl z).symm]; exact h
  · rw [upd_ne fun z => k n hl z.symm]; exact h
  · by_cases e : a = α n
    · subst e; rw [upd_same] at h; cases h
    · rw [upd_ne e] at h; exact h
/-- a cell is shut, its object is data from now on -/
theorem Sr.frzO (s : Sr W α F S H) {n : Nat} {c : Cell} {o : HO} (hn : S[n]? = some c) (hc : c ≠ .dead) (hv : H (α n) = some o) :
    Sr W α (upd F (α n) o) (S.set n .dead) H ∧ Ext α F S H α (upd F (α n) o) (S.set n .dead) H ∧ Sub F (upd F (α n) o) := by
  have hl : Live S n := ⟨_, hn, hc⟩
  have len : (S.set n .dead).length = S.length := by simp
  have fn : F (α n) = none := s.sep n hl
  have fr : Sub F (upd F (α n) o) := fun a u h => by rw [upd_ne (ne_of_none h fn)]; exact h
  have lv : ∀ m, Live (S.set n .dead) m → Live S m ∧ m ≠ n := fun m l => ⟨live_set hl l, fun e => by
    obtain ⟨c, q, hc⟩ := l
    rw [e, List.getElem?_set_self hl.lt] at q
    exact hc (Option.some.inj q).symm⟩
  refine ⟨⟨fun a u h => ?_, fun m l => ?_, fun m k lm lk => s.inj m k (lv m lm).1 (lv k lk).1, fun m c e => ?_⟩, ⟨fun _ _ => rfl, by rw [len]; exact Nat.le_refl _, fr, fun a u h _ => h, fun m h1 h2 => absurd (Nat.lt_of_lt_of_le h2 (by rw [len]; exact h1)) (Nat.lt_irrefl _), fun m _ l => (lv m l).1, fun _ h => h, fun a u h h' => ?_⟩, fr⟩
  · by_cases e : a = α n
    · subst e; rw [upd_same] at h; cases h; exact hv
    · rw [upd_ne e] at h; exact s.sub a u h
  · obtain ⟨l1, ne⟩ := lv m l
    rw [upd_ne fun z => ne (s.inj m n l1 hl z)]
    exact s.sep m l1
  · rw [len]
    by_cases q : n = m
    · subst q
      rw [List.getElem?_set_self hl.lt] at e
      cases e
      trivial
    · rw [List.getElem?_set_ne q] at e
      exact (s.cel m c e).mono (fun _ _ => rfl) (Nat.le_refl _) fr fun _ _ h => h
  · by_cases e : a = α n
    · exact .inr ⟨n, hl, e.symm⟩
    · rw [upd_ne e, h'] at h; cases h
/-- a cell's list is shut and stands as data -/
theorem Sr.frzC (s : Sr W α F S H) {n : Nat} {xs : List Vl} {ds : List D} (hn : S[n]? = some (.lst xs)) (hp : Z.pures xs = some ds) :
    ∃ F', Sr W α F' (S.set n .dead) H ∧ Ext α F S H α F' (S.set n .dead) H ∧ Rp W F' (.lst ds) (.ref (α n)) := by
  obtain ⟨vs, hv, r⟩ := s.cel n _ hn
  obtain ⟨s', x', fr⟩ := s.frzO hn (fun z => nomatch z) hv
  exact ⟨_, s', x', α n, vs, rfl, upd_same, Rps.mono fr (r.pures hp)⟩
theorem DctR.at {H : Hp} {a : Addr} {t : Bool} {ks : List D} {ws : List V} (r : DctR H a t ks ws) : ∃ o, H a = some o ∧ ∀ H' : Hp, H' a = some o → DctR H' a t ks ws := by
  rcases r with ⟨e, kk, h1, h2, h3⟩ | ⟨e, kk, h1, h2, h3⟩
  · exact ⟨_, h3, fun H' h => .inl ⟨e, kk, h1, h2, h⟩⟩
  · exact ⟨_, h3, fun H' h => .inr ⟨e, kk, h1, h2, h⟩⟩
theorem Sr.frzD (s : Sr W α F S H) {n : Nat} {t : Bool} {kvs : List (D × Vl)} {ds : List D} (hn : S[n]? = some (.dct t kvs)) (hp : Z.pures (kvs.map (·.2)) = some ds) :
    ∃ F', Sr W α F' (S.set n .dead) H ∧ Ext α F S H α F' (S.set n .dead) H ∧ Rp W F' (.dct t (kvs.map (·.1)) ds) (.ref (α n)) := by
  obtain ⟨ws, hd, r⟩ := s.cel n _ hn
  obtain ⟨o, ho, go⟩ := hd.at
  obtain ⟨s', x', fr⟩ := s.frzO hn (fun z => nomatch z) ho
  exact ⟨_, s', x', α n, ws, rfl, go _ upd_same, Rps.mono fr (r.pures hp)⟩
/-- what freeze gives -/
theorem Sr.freeze (s : Sr W α F S H) {v : Vl} {w : V} (r : VlR W α F S.length v w) {d : D} {S' : Sto} (h : Z.freeze v S = some (d, S')) :
    ∃ F', Sr W α F' S' H ∧ Ext α F S H α F' S' H ∧ Rp W F' d w := by
  cases v with
  | d x =>
    cases h
    exact ⟨F, s, Ext.refl, r⟩
  | p n =>
    obtain ⟨e, hl⟩ := (show w = .ref (α n) ∧ n < S.length from r)
    subst e
    unfold Z.freeze at h
    dsimp only at h
    cases hn : S[n]? with
    | none => rw [hn] at h; cases h
    | some c =>
      rw [hn] at h
      cases c with
      | lst xs =>
        dsimp only at h
        cases hp : Z.pures xs with
        | none => rw [hp] at h; cases h
        | some ds =>
          rw [hp] at h
          cases h
          exact s.frzC hn hp
      | dct t kvs =>
        dsimp only at h
        cases hp : Z.pures (kvs.map (·.2)) with
        | none => rw [hp] at h; cases h
        | some ds =>
          rw [hp] at h
          cases h
          exact s.frzD hn hp
      | _ => cases h
/-- a cell is shut for a while -/
theorem Sr.lock (s : Sr W α F S H) {n : Nat} {c : Cell} (hn : S[n]? = some c) : Sr W α F (S.set n .dead) H := by
  have len : (S.set n .dead).length = S.length := by simp
  have lv : ∀ m, Live (S.set n .dead) m → Live S m := fun m l => by
    obtain ⟨c', q, hc⟩ := l
    by_cases e : n = m
    · subst e
      rw [List.getElem?_set_self (List.getElem?_eq_some_iff.mp hn).1] at q
      exact absurd (Option.some.inj q).symm hc
    · rw [List.getElem?_set_ne e] at q
      exact ⟨c', q, hc⟩
  refine ⟨s.sub, fun m l => s.sep m (lv m l), fun m k lm lk => s.inj m k (lv m lm) (lv k lk), fun m c' e => ?_⟩
  rw [len]
  by_cases q : n = m
  · subst q
    rw [List.getElem?_set_self (List.getElem?_eq_some_iff.mp hn).1] at e
    cases e
    trivial
  · rw [List.getElem?_set_ne q] at e
    exact s.cel m c' e
/-- an object that is ours neither as data nor as a cell -/
structure Oth (α : Nat → Addr) (F : Hp) (S : Sto) (d0 : Addr) : Prop where
  f : F d0 = none
  c : ∀ n, Live S n → α n ≠ d0
theorem Sr.oth0 (s : Sr W α F S H) {d0 : Addr} (h : H d0 = none) : Oth α F S d0 :=
  ⟨(by
    cases q : F d0 with
    | none => rfl
    | some u => rw [s.sub d0 u q] at h; cases h), fun n l e => (by
    obtain ⟨u, q⟩ := s.there l
    rw [e, h] at q; cases q)⟩
theorem Oth.ext (o : Oth α F S d0) (x : Ext α F S H α' F' S' H') {u : HO} (h : H d0 = some u) : Oth α' F' S' d0 ∧ H' d0 = some u := by
  refine ⟨⟨?_, fun n l e => ?_⟩, x.frame d0 u h o.c⟩
  · cases q : F' d0 with
    | none => rfl
    | some v =>
      rcases x.fz d0 v q o.f with z | ⟨n, l, e⟩
      · rw [h] at z; cases z
      · exact absurd e (o.c n l)
  · by_cases hn : n < S.length
    · rw [x.al n hn] at e
      exact o.c n (x.lv n hn l) e
    · have := x.new n (Nat.le_of_not_lt hn) l.lt
      rw [e, h] at this; cases this
theorem Sr.oth (s : Sr W α F S H) {d0 : Addr} {u : HO} (o : Oth α F S d0) : Sr W α F S (upd H d0 u) := by
  refine ⟨fun a v h => ?_, s.sep, s.inj, fun n c e => ?_⟩
  · have ne : a ≠ d0 := fun z => by rw [z, o.f] at h; cases h
    rw [upd_ne ne]; exact s.sub a v h
  · exact (s.cel n c e).mono (fun _ _ => rfl) (Nat.le_refl _) (Sub.refl F) fun d v h => by rw [upd_ne (o.c n ⟨c, e, d⟩)]; exact h
/-- from a state in which d0 was not there -/
theorem Ext.oth (x : Ext α F S H α' F' S' H') {d0 : Addr} {u : HO} (h : H d0 = none) : Ext α F S H α' F' S' (upd H' d0 u) := by
  refine ⟨x.al, x.len, x.fr, fun a o q k => ?_, x.new, x.lv, fun a q => ?_, x.fz⟩
  · rw [upd_ne (ne_of_none q h)]; exact x.frame a o q k
  · by_cases e : a = d0
    · rw [e]; exact h
    · rw [upd_ne e] at q; exact x.dom a q
/-- it becomes data -/
theorem Sr.adoptF (s : Sr W α F S H) {d0 : Addr} {u : HO} (o : Oth α F S d0) (h : H d0 = some u) : Sr W α (upd F d0 u) S H := by
  have fr : Sub F (upd F d0 u) := fun a v q => by rw [upd_ne (ne_of_none q o.f)]; exact q
  refine ⟨fun a v q => ?_, fun n l => ?_, s.inj, fun n c e => (s.cel n c e).mono (fun _ _ => rfl) (Nat.le_refl _) fr fun _ _ h => h⟩
  · by_cases e : a = d0
    · subst e; rw [upd_same] at q; cases q; exact h
    · rw [upd_ne e] at q; exact s.sub a v q
  · rw [upd_ne (o.c n l)]; exact s.sep n l
theorem Ext.adoptF (x : Ext α F S H α' F' S' H') {d0 : Addr} {u : HO} (h : H d0 = none) (o : F' d0 = none) : Ext α F S H α' (upd F' d0 u) S' H' := by
  refine ⟨x.al, x.len, fun a v q => ?_, x.frame, x.new, x.lv, x.dom, fun a v q q' => ?_⟩
  · rw [upd_ne (ne_of_none (x.fr a v q) o)]; exact x.fr a v q
  · by_cases e : a = d0
    · rw [e]; exact .inl h
    · rw [upd_ne e] at q; exact x.fz a v q q'
/-- it becomes a cell -/
theorem Sr.adoptC (s : Sr W α F S H) {d0 : Addr} {u : HO} (o : Oth α F S d0) (h : H d0 = some u) {c : Cell} (hc : CellOk W (adr α S.length d0) F (S.length + 1) H d0 c) : Sr W (adr α S.length d0) F (S ++ [c]) H := by
  have al : ∀ n, n < S.length → adr α S.length d0 n = α n := fun n h => adr_ne (Nat.ne_of_lt h)
  have len : (S ++ [c]).length = S.length + 1 := by simp
  refine ⟨s.sub, fun n l => ?_, fun m n lm ln e => ?_, fun n c' e => ?_⟩
  · by_cases e : n = S.length
    · subst e; rw [adr_same]; exact o.f
    · rw [adr_ne e]; exact s.sep n (live_append l e)
  · by_cases em : m = S.length <;> by_cases en : n = S.length
    · rw [em, en]
    · rw [em, adr_same, adr_ne en] at e
      exact absurd e.symm (o.c n (live_append ln en))
    · rw [en, adr_same, adr_ne em] at e
      exact absurd e (o.c m (live_append lm em))
    · rw [adr_ne em, adr_ne en] at e
      exact s.inj m n (live_append lm em) (live_append ln en) e
  · rw [len]
    by_cases en : n = S.length
    · subst en
      rw [List.getElem?_append_right (Nat.le_refl _)] at e
      simp at e
      subst e
      rw [adr_same]
      exact hc
    · have hl : n < (S ++ [c]).length := (List.getElem?_eq_some_iff.mp e).1
      rw [len] at hl
      rw [List.getElem?_append_left (by omega)] at e
      rw [adr_ne en]
      exact (s.cel n c' e).mono al (Nat.le_succ _) (Sub.refl F) fun _ u h => h
theorem Ext.adoptC (x : Ext α F S H α' F' S' H') {d0 : Addr} (h : H d0 = none) {c : Cell} : Ext α F S H (adr α' S'.length d0) F' (S' ++ [c]) H' := by
  refine ⟨fun n hn => ?_, by rw [List.length_append]; exact Nat.le_trans x.len (Nat.le_add_right _ _), x.fr, x.frame, fun n h1 h2 => ?_, fun n hn l => x.lv n hn (live_append l ?_), x.dom, x.fz⟩
  · rw [adr_ne (Nat.ne_of_lt (Nat.lt_of_lt_of_le hn x.len))]; exact x.al n hn
  · by_cases e : n = S'.length
    · rw [e, adr_same]; exact h
    · rw [adr_ne e]
      exact x.new n h1 (by rw [List.length_append, List.length_singleton] at h2; omega)
  · exact Nat.ne_of_lt (Nat.lt_of_lt_of_le hn x.len)
/-- behind a lock -/
theorem Sr.unlock (s : Sr W α F S H) {n : Nat} {c : Cell} (hn : S[n]? = some c) (x : Ext α F (S.set n .dead) H α' F' S' H') (s' : Sr W α' F' S' H') (hd : c ≠ .dead) : Sr W α' F' (S'.set n c) H' ∧ Ext α F S H α' F' (S'.set n c) H' := by
  have hl : n < S.length := (List.getElem?_eq_some_iff.mp hn).1
  have ln : Live S n := ⟨c, hn, hd⟩
  have len : (S.set n .dead).length = S.length := by simp
  have hl' : n < S'.length := Nat.lt_of_lt_of_le hl (by rw [← len]; exact x.len)
  have nd : ¬ Live (S.set n .dead) n := fun ⟨c', q, h⟩ => by
    rw [List.getElem?_set_self hl] at q
    exact h (Option.some.inj q).symm
  have lk : ∀ m, Live (S.set n .dead) m → Live S m ∧ m ≠ n := fun m l => by
    refine ⟨?_, fun e => nd (e ▸ l)⟩
    obtain ⟨c', q, h⟩ := l
    by_cases e : n = m
    · subst e; rw [List.getElem?_set_self hl] at q; exact absurd (Option.some.inj q).symm h
    · rw [List.getElem?_set_ne e] at q; exact ⟨c', q, h⟩
  have al : α' n = α n := x.al n (by rw [len]; exact hl)
  obtain ⟨u, hu⟩ := s.there ln
  have noL : ∀ m, Live (S.set n .dead) m → α m ≠ α n := fun m l z => (lk m l).2 (s.inj m n (lk m l).1 ln z)
  have hu' : H' (α n) = some u := x.frame _ u hu noL
  have nL' : ∀ m, Live S' m → m ≠ n → α' m ≠ α n := fun m l hm z => by
    by_cases hm' : m < S.length
    · rw [x.al m (by rw [len]; exact hm')] at z
      exact noL m (x.lv m (by rw [len]; exact hm') l) z
    · have := x.new m (by rw [len]; exact Nat.le_of_not_lt hm') l.lt
      rw [z, hu] at this; cases this
  have cases' : ∀ m, Live (S'.set n c) m → m = n ∨ (m ≠ n ∧ Live S' m) := fun m l => by
    by_cases e : n = m
    · exact .inl e.symm
    · obtain ⟨c', q, h⟩ := l
      rw [List.getElem?_set_ne e] at q
      exact .inr ⟨fun z => e z.symm, c', q, h⟩
  refine ⟨⟨s'.sub, fun m l => ?_, fun m k lm lk' e => ?_, fun m c' e => ?_⟩, ⟨fun m h => x.al m (by rw [len]; exact h), by rw [List.length_set, ← len]; exact x.len, x.fr, fun a o h k => x.frame a o h fun m l => k m (lk m l).1, fun m h1 h2 => x.new m (by rw [len]; exact h1) (by rw [List.length_set] at h2; exact h2), fun m h l => ?_, x.dom, fun a o h h' => ?_⟩⟩
  · rcases cases' m l with rfl | ⟨hm, l⟩
    · rw [al]
      cases q : F' (α m) with
      | none => rfl
      | some v =>
        rcases x.fz _ v q (s.sep m ln) with z | ⟨k, lk', e⟩
        · rw [hu] at z; cases z
        · exact absurd e (noL k lk')
    · exact s'.sep m l
  · rcases cases' m lm with z | ⟨hm, lm2⟩ <;> rcases cases' k lk' with z' | ⟨hk, lk2⟩
    · rw [z, z']
    · rw [z, al] at e; exact absurd e.symm (nL' k lk2 hk)
    · rw [z', al] at e; exact absurd e (nL' m lm2 hm)
    · exact s'.inj m k lm2 lk2 e
  · rw [List.length_set]
    by_cases e' : n = m
    · subst e'
      rw [List.getElem?_set_self hl'] at e
      cases e
      rw [al]
      exact (s.cel n c hn).mono (fun m h => x.al m (by rw [len]; exact h)) (by rw [← len]; exact x.len) x.fr fun _ v h => x.frame _ v h noL
    · rw [List.getElem?_set_ne e'] at e
      exact s'.cel m c' e
  · rcases cases' m l with rfl | ⟨hm, l⟩
    · exact ln
    · exact (lk m (x.lv m (by rw [len]; exact h) l)).1
  · rcases x.fz a o h h' with z | ⟨k, lk', e⟩
    · exact .inl z
    · exact .inr ⟨k, (lk k lk').1, e⟩
end
end Z
end

section
set_option maxHeartbeats 1000000
/-! Z5: what a reading promises; expressions. -/
namespace Z
open PySem L2

/-- an exception: its class, its own dict -/
def ExR (W : Wd) (F H : Hp) (e : Exn) (c : Value) (d : Option Addr) : Prop :=
  c = .ref (W.ca e.cls) ∧ match d with
    | none => e.fs = []
    | some a => ∃ vs, H a = some (.xd ((e.fs.map fun p => W.nm p.1).zip vs)) ∧ Rps W F (e.fs.map (·.2)) vs
/-- what is wanted of an answer holds wherever it may lie -/
def Post {τ β : Type} (W : Wd) (E : XK) (Rel : (Nat → Addr) → Hp → Sto → Hp → τ → β → Prop) (α : Nat → Addr) (F : Hp) (S : Sto) (H : Hp) (r : Res τ) (Q : β → Hp → Prop) : Prop :=
  match r with
  | .ok a S' => ∀ w α' F' H', Ext α F S H α' F' S' H' → Sr W α' F' S' H' → Rel α' F' S' H' a w → Q w H'
  | .exc e S' => ∀ c d α' F' H', Ext α F S H α' F' S' H' → Sr W α' F' S' H' → ExR W F' H' e c d → E c d H'
  | .bad => False
def RelE {β : Type} (_ : Nat → Addr) (_ : Hp) (_ : Sto) (_ : Hp) (a b : β) : Prop := a = b
abbrev VlX (W : Wd) : (Nat → Addr) → Hp → Sto → Hp → Vl → V → Prop := fun α F S _ x v => VlR W α F S.length x v
abbrev VlXs (W : Wd) : (Nat → Addr) → Hp → Sto → Hp → List Vl → List V → Prop := fun α F S _ x v => VlRs W α F S.length x v
/-- the names' values -/
structure EnvR (W : Wd) (α : Nat → Addr) (F : Hp) (N : Nat) (ρ : Env) (σ : L2.St) : Prop where
  len : ρ.length = σ.length
  at_ : ∀ (i : Nat) (v : Vl), ρ[i]? = some (some v) → ∃ w, σ[i]? = some (some w) ∧ VlR W α F N v w

section
variable {W : Wd} {E : XK} {Es : SX} {α α' : Nat → Addr} {F F' : Hp} {S S' : Sto} {H H' : Hp} {τ τ' β β' : Type}
theorem EnvR.ext (x : Ext α F S H α' F' S' H') {ρ : Env} {σ : L2.St} (r : EnvR W α F S.length ρ σ) : EnvR W α' F' S'.length ρ σ :=
  ⟨r.len, fun i v h => let ⟨w, e, q⟩ := r.at_ i v h; ⟨w, e, q.ext x⟩⟩
theorem EnvR.set {N : Nat} {ρ : Env} {σ : L2.St} (r : EnvR W α F N ρ σ) {v : Vl} {w : V} (q : VlR W α F N v w) (i : Nat) : EnvR W α F N (ρ.set i (some v)) (σ.set i (some w)) := by
  refine ⟨by simp [r.len], fun j u h => ?_⟩
  by_cases e : i = j
  · subst e
    have hl : i < ρ.length := by
      by_cases hl : i < ρ.length
      · exact hl
      · rw [List.getElem?_eq_none (by simpa using hl)] at h; cases h
    rw [List.getElem?_set_self hl] at h
    cases h
    exact ⟨w, by rw [List.getElem?_set_self (by rw [← r.len]; exact hl)], q⟩
  · rw [List.getElem?_set_ne e] at h
    rw [List.getElem?_set_ne e]
    exact r.at_ j u h
theorem EnvR.setNone {N : Nat} {ρ : Env} {σ : L2.St} (r : EnvR W α F N ρ σ) (i : Nat) : EnvR W α F N (ρ.set i none) (σ.set i none) := by
  refine ⟨by simp [r.len], fun j u h => ?_⟩
  by_cases e : i = j
  · subst e
    by_cases hl : i < ρ.length
    · rw [List.getElem?_set_self hl] at h; cases h
    · rw [List.getElem?_eq_none (by simpa using hl)] at h; cases h
  · rw [List.getElem?_set_ne e] at h
    rw [List.getElem?_set_ne e]
    exact r.at_ j u h
theorem EnvR.wipe {N : Nat} {ρ : Env} {σ : L2.St} (r : EnvR W α F N ρ σ) : ∀ own : List Nat, EnvR W α F N (Z.wipe ρ own) (L2.wipe σ own)
  | [] => r
  | i :: is => (EnvR.wipe r is).setNone i

variable {Rel : (Nat → Addr) → Hp → Sto → Hp → τ → β → Prop} {Rel' : (Nat → Addr) → Hp → Sto → Hp → τ' → β' → Prop}
theorem Post.imp {r : Res τ} {Q Q' : β → Hp → Prop} (p : Post W E Rel α F S H r Q) (h : ∀ w H', Q w H' → Q' w H') : Post W E Rel α F S H r Q' := by
  cases r with
  | ok a S' => exact fun w α' F' H' x s q => h _ _ (p w α' F' H' x s q)
  | exc e S' => exact p
  | bad => exact p
theorem Post.rebase {r : Res τ} {Q : β → Hp → Prop} (x : Ext α F S H α' F' S' H') (p : Post W E Rel α F S H r Q) : Post W E Rel α' F' S' H' r Q := by
  cases r with
  | ok a S'' => exact fun w α2 F2 H2 y s q => p w α2 F2 H2 (x.trans y) s q
  | exc e S'' => exact fun c d α2 F2 H2 y s q => p c d α2 F2 H2 (x.trans y) s q
  | bad => exact p
/-- the middle of two pieces of work -/
def Mid (W : Wd) (E : XK) (Rel : (Nat → Addr) → Hp → Sto → Hp → τ → β → Prop) (Rel' : (Nat → Addr) → Hp → Sto → Hp → τ' → β' → Prop) (α : Nat → Addr) (F : Hp) (S : Sto) (H : Hp) (g : τ → Sto → Res τ') (Q : β' → Hp → Prop) (w : β) (H1 : Hp) : Prop :=
  ∃ α1 F1 a S1, Ext α F S H α1 F1 S1 H1 ∧ Sr W α1 F1 S1 H1 ∧ Rel α1 F1 S1 H1 a w ∧ Post W E Rel' α1 F1 S1 H1 (g a S1) Q
theorem Post.bind {r : Res τ} {g : τ → Sto → Res τ'} {Q : β' → Hp → Prop} (p : Post W E Rel' α F S H (r.bind g) Q) : Post W E Rel α F S H r (Mid W E Rel Rel' α F S H g Q) := by
  cases r with
  | ok a S' => exact fun w α' F' H' x s q => ⟨α', F', a, S', x, s, q, Post.rebase x p⟩
  | exc e S' => exact p
  | bad => exact p
theorem Post.here {a : τ} {w : β} {Q : β → Hp → Prop} (p : Post W E Rel α F S H (.ok a S) Q) (s : Sr W α F S H) (q : Rel α F S H a w) : Q w H := p w α F H Ext.refl s q
end

/-! ### the judgements -/
/-- what is wished of what is raised, by the names' values -/
abbrev SX := L2.St → XK
abbrev Es0 : SX := fun _ => E0
def tD (W : Wd) (Es : SX) (f : Env → Sto → Res Vl) : TE := fun σ H Q => ∃ α F ρ S, Sr W α F S H ∧ EnvR W α F S.length ρ σ ∧ Post W (Es σ) (VlX W) α F S H (f ρ S) Q
def tDT (W : Wd) (Es : SX) (f : Env → Sto → Res Bool) : TT := fun σ H Q => ∃ α F ρ S, Sr W α F S H ∧ EnvR W α F S.length ρ σ ∧ Post W (Es σ) RelE α F S H (f ρ S) Q
def tDA (W : Wd) (Es : SX) (f : Env → Sto → Res (List Vl)) : TA := fun σ H Q => ∃ α F ρ S, Sr W α F S H ∧ EnvR W α F S.length ρ σ ∧ Post W (Es σ) (VlXs W) α F S H (f ρ S) Q
def tDO (W : Wd) (Es : SX) (f : Env → Sto → Res (Option Int)) : TO := fun σ H Q => ∃ α F ρ S, Sr W α F S H ∧ EnvR W α F S.length ρ σ ∧ Post W (Es σ) RelE α F S H (f ρ S) Q

theorem peI {X : Cx} {e : Expr} {t t' : TE} (h : PE X e t) (k : ∀ σ H Q, t' σ H Q → t σ H Q) : PE X e t' := ⟨fun pins s σ H Q I q => h.run pins s σ H Q I (k σ H Q q)⟩
theorem ptI {X : Cx} {e : Expr} {t t' : TT} (h : PT X e t) (k : ∀ σ H Q, t' σ H Q → t σ H Q) : PT X e t' := ⟨fun pins s σ H Q I q => h.run pins s σ H Q I (k σ H Q q)⟩
theorem paI {X : Cx} {e : List Expr} {t t' : TA} (h : PA X e t) (k : ∀ σ H Q, t' σ H Q → t σ H Q) : PA X e t' := ⟨fun pos pins s σ H Q I q => h.run pos pins s σ H Q I (k σ H Q q)⟩
theorem poI {X : Cx} {e : Option Expr} {t t' : TO} (h : PO X e t) (k : ∀ σ H Q, t' σ H Q → t σ H Q) : PO X e t' := ⟨fun pins s σ H Q I q => h.run pins s σ H Q I (k σ H Q q)⟩

section
variable {X : Cx} {W : Wd} {E : XK} {Es : SX} {a b e : Expr} {pos : Pos} {fa fb : Env → Sto → Res Vl}

/-! ### the end of an operation -/
section
variable {α : Nat → Addr} {F : Hp} {S : Sto} {H : Hp} {Q : VK}
/-- the answer is data that is there -/
theorem fin_d {x : D} {w : V} (p : Post W E (VlX W) α F S H (.ok (.d x) S) Q) (s : Sr W α F S H) (q : Rp W F x w) : Q w H := p.here s q
/-- the answer is a new list or tuple -/
theorem fin_tup {ds : List D} {vs : List V} (p : Post W E (VlX W) α F S H (.ok (.d (.tup ds)) S) Q) (s : Sr W α F S H) (r : Rps W F ds vs) {l : Addr} (hl : H l = none) : Q (.ref l) (upd H l (.tup vs)) := by
  obtain ⟨s', x⟩ := s.newF (o := .tup vs) hl
  exact p _ α _ _ x s' ⟨l, vs, rfl, upd_same, Rps.mono x.fr r⟩
theorem fin_lst {ds : List D} {vs : List V} (p : Post W E (VlX W) α F S H (.ok (.d (.lst ds)) S) Q) (s : Sr W α F S H) (r : Rps W F ds vs) {l : Addr} (hl : H l = none) : Q (.ref l) (upd H l (.lst vs)) := by
  obtain ⟨s', x⟩ := s.newF (o := .lst vs) hl
  exact p _ α _ _ x s' ⟨l, vs, rfl, upd_same, Rps.mono x.fr r⟩
theorem fin_cell {xs : List Vl} {vs : List V} (p : Post W E (VlX W) α F S H (.ok (.p S.length) (S ++ [.lst xs])) Q) (s : Sr W α F S H) (r : VlRs W α F S.length xs vs) {l : Addr} (hl : H l = none) : Q (.ref l) (upd H l (.lst vs)) := by
  obtain ⟨s', x⟩ := s.newC (o := .lst vs) (c := .lst xs) hl ⟨vs, upd_same, r.mono (fun n h => adr_ne (Nat.ne_of_lt h)) (Nat.le_succ _) (Sub.refl F)⟩
  exact p _ _ _ _ x s' ⟨by rw [adr_same], by simp⟩
theorem fin_new {cell : Bool} {xs : List Vl} {vs : List V} (p : Post W E (VlX W) α F S H (newList cell xs S) Q) (s : Sr W α F S H) (r : VlRs W α F S.length xs vs) : vs.length ≤ sizeLine ∧ ∀ l, H l = none → Q (.ref l) (upd H l (.lst vs)) := by
  unfold newList at p
  split at p
  · rename_i hz
    refine ⟨by rw [← r.length, sizeLine_eq]; exact of_decide_eq_true hz, fun l hl => ?_⟩
    split at p
    · exact fin_cell p s r hl
    · split at p
      · rename_i ds hd
        exact fin_lst p s (r.pures hd) hl
      · exact p.elim
  · exact p.elim
end

/-! ### names, constants -/
theorem de_var {i : Nat} {x : Str} (hN : X.N[i]? = some x) (hv : Vis X.env.scope x) (hd : (x == ("__debug__" : Str)) = false) (hcd : (x == ("__classdict__" : Str)) = false) :
    PE X (.Name x pos) (tD W Es fun ρ S => pick ((ρ[i]?).bind id) S) := by
  refine peI (pe_var hN hv hd hcd) fun σ H Q ⟨α, F, ρ, S, s, er, p⟩ => ?_
  have p : Post W (Es σ) (VlX W) α F S H (pick ((ρ[i]?).bind id) S) Q := p
  cases q : (ρ[i]?).bind id with
  | none => rw [q] at p; exact p.elim
  | some v =>
    rw [q] at p
    have q' : ρ[i]? = some (some v) := by
      cases z : ρ[i]? with
      | none => rw [z] at q; cases q
      | some o => rw [z] at q; exact congrArg some q
    obtain ⟨w, e, r⟩ := er.at_ i v q'
    exact ⟨w, e, p.here s r⟩
theorem de_con {e : Expr} {v : V} {x : D} (h : PE X e (tC v)) (r : ∀ F, Rp W F x v) : PE X e (tD W Es fun _ S => .ok (.d x) S) :=
  peI h fun σ H Q ⟨α, F, ρ, S, s, er, p⟩ => fin_d p s (r F)

/-! ### operators -/
/-- two operands, then what is done with them -/
theorem two {g : Vl → Vl → Sto → Res Vl} {r : R2} {σ : L2.St} {H : Hp} {Q : VK} (h : tD W Es (fun ρ S => (fa ρ S).bind fun x S => (fb ρ S).bind fun y S => g x y S) σ H Q)
    (hr : ∀ {E α F S H x y v u}, Sr W α F S H → VlR W α F S.length x v → VlR W α F S.length y u → Post W E (VlX W) α F S H (g x y S) Q → r v u H Q) : tOp r (tD W Es fa) (tD W Es fb) σ H Q := by
  obtain ⟨α, F, ρ, S, s, er, p⟩ := h
  refine ⟨α, F, ρ, S, s, er, p.bind.imp fun v H1 ⟨α1, F1, x, S1, x1, s1, r1, p1⟩ => ?_⟩
  refine ⟨α1, F1, ρ, S1, s1, er.ext x1, p1.bind.imp fun u H2 ⟨α2, F2, y, S2, x2, s2, r2, p2⟩ => ?_⟩
  exact hr s2 (r1.ext x2) r2 p2
/-- one operand -/
theorem one {g : Vl → Sto → Res Vl} {r : V → Hp → VK → Prop} {σ : L2.St} {H : Hp} {Q : VK} (h : tD W Es (fun ρ S => (fa ρ S).bind fun x S => g x S) σ H Q)
    (hr : ∀ {E α F S H x v}, Sr W α F S H → VlR W α F S.length x v → Post W E (VlX W) α F S H (g x S) Q → r v H Q) : tUn r (tD W Es fa) σ H Q := by
  obtain ⟨α, F, ρ, S, s, er, p⟩ := h
  refine ⟨α, F, ρ, S, s, er, p.bind.imp fun v H1 ⟨α1, F1, x, S1, x1, s1, r1, p1⟩ => ?_⟩
  exact hr s1 r1 p1
end
end Z
end

section
set_option maxHeartbeats 1000000
/-! Z6: the operators. -/
namespace Z
open PySem L2

theorem most_eq : most = sizeLine := by rw [sizeLine_eq]; rfl
theorem str_len (s : Tx) : (⟨s.toArray⟩ : Str).length = s.length := by simp [Str.length]
theorem str_app (a b : Tx) : (⟨a.toArray⟩ : Str) ++ ⟨b.toArray⟩ = ⟨(a ++ b).toArray⟩ := by
  apply Str.ext'
  show a.toArray ++ b.toArray = (a ++ b).toArray
  simp
theorem str_eq (a b : Tx) : ((⟨a.toArray⟩ : Str) = ⟨b.toArray⟩) ↔ a = b := by
  constructor
  · intro h
    have := congrArg (fun x : Str => x.cps.toList) h
    simpa using this
  · intro h; rw [h]

section
variable {W : Wd} {α : Nat → Addr} {F : Hp} {S : Sto} {H : Hp} {N : Nat}
theorem VlR.list (s : Sr W α F S H) {x : Vl} {v : V} (r : VlR W α F S.length x v) {xs : List Vl} (h : listOf x S = some xs) : ∃ a vs, v = .ref a ∧ H a = some (.lst vs) ∧ VlRs W α F S.length xs vs := by
  cases x with
  | d d =>
    cases d <;> simp [listOf] at h
    subst h
    obtain ⟨a, vs, e, q, rr⟩ := (show Rp W F _ _ from r)
    exact ⟨a, vs, e, s.sub _ _ q, .of_pure rr⟩
  | p n =>
    obtain ⟨e, hl⟩ := (show v = .ref (α n) ∧ n < S.length from r)
    simp only [listOf] at h
    cases hn : S[n]? with
    | none => rw [hn] at h; cases h
    | some c =>
      rw [hn] at h
      cases c <;> simp at h
      subst h
      obtain ⟨vs, hv, rr⟩ := s.cel n _ hn
      exact ⟨α n, vs, e, hv, rr⟩
theorem ints_rps : ∀ (ns : List Int), Rps W F (ns.map .int) (ns.map V.int)
  | [] => rfl
  | n :: ns => ⟨_, _, rfl, rfl, ints_rps ns⟩
theorem VlR.seq (s : Sr W α F S H) {x : Vl} {v : V} (r : VlR W α F S.length x v) {xs : List Vl} (h : seqOf x S = some xs) : ∃ a vs, v = .ref a ∧ (SqL W.K H a vs ∨ SqT W.K H a vs) ∧ VlRs W α F S.length xs vs := by
  cases x with
  | d d =>
    cases d with
    | lst ds =>
      simp [seqOf] at h
      subst h
      obtain ⟨a, vs, e, q, rr⟩ := (show Rp W F _ _ from r)
      exact ⟨a, vs, e, .inl (.of (s.sub _ _ q)), .of_pure rr⟩
    | tup ds =>
      simp [seqOf] at h
      subst h
      obtain ⟨a, vs, e, q, rr⟩ := (show Rp W F _ _ from r)
      exact ⟨a, vs, e, .inr (s.sub.sqT (.of q)), .of_pure rr⟩
    | scr ns =>
      simp [seqOf] at h
      subst h
      obtain ⟨a, e, q⟩ := (show Rp W F _ _ from r)
      have : VlRs W α F S.length ((ns.map D.int).map .d) (ns.map V.int) := .of_pure (ints_rps ns)
      rw [List.map_map] at this
      exact ⟨a, _, e, .inl (s.sub.sqL q), this⟩
    | _ => simp [seqOf] at h
  | p n =>
    obtain ⟨e, hl⟩ := (show v = .ref (α n) ∧ n < S.length from r)
    simp only [seqOf] at h
    cases hn : S[n]? with
    | none => rw [hn] at h; cases h
    | some c =>
      rw [hn] at h
      cases c <;> simp at h
      subst h
      obtain ⟨vs, hv, rr⟩ := s.cel n _ hn
      exact ⟨α n, vs, e, .inl (.of hv), rr⟩
end

section
variable {X : Cx} {W : Wd} {E : XK} {Es : SX} {a b e : Expr} {pos : Pos} {fa fb : Env → Sto → Res Vl}
variable {α : Nat → Addr} {F : Hp} {S : Sto} {H : Hp} {Q : VK} {x y : Vl} {v u : V}

/-! ### == on data -/
mutual
theorem dp_of (hK : W.K = X.K) (sub : Sub F H) : ∀ (n : Nat) (d : D) (v : V), isData n d = true → Rp W F d v → Dp X.K H v (toPy d)
  | n, .non, _, _, r => by cases (show _ = V.non from r); exact .non
  | n, .bl b, _, _, r => by cases (show _ = V.bl b from r); exact .bl b
  | n, .int i, _, _, r => by cases (show _ = V.int i from r); exact .int i
  | n, .str s, _, _, r => by cases (show _ = V.str ⟨s.toArray⟩ from r); exact .str _
  | n, .fn _, _, h, _ => by cases n <;> simp [isData] at h
  | n, .scr _, _, h, _ => by cases n <;> simp [isData] at h
  | n, .dct _ _ _, _, h, _ => by cases n <;> simp [isData] at h
  | n, .ins _ _ _, _, h, _ => by cases n <;> simp [isData] at h
  | 0, .tup _, _, h, _ => by simp [isData] at h
  | 0, .lst _, _, h, _ => by simp [isData] at h
  | n + 1, .tup xs, _, h, r => by
    obtain ⟨a, vs, e, q, rr⟩ := r
    subst e
    exact .tup (by rw [← hK]; exact sub.sqT (.of q)) (dps_of hK sub n xs vs (by simpa [isData] using h) rr)
  | n + 1, .lst xs, _, h, r => by
    obtain ⟨a, vs, e, q, rr⟩ := r
    subst e
    exact .lst (.of (sub _ _ q)) (dps_of hK sub n xs vs (by simpa [isData] using h) rr)
theorem dps_of (hK : W.K = X.K) (sub : Sub F H) : ∀ (n : Nat) (ds : List D) (vs : List V), isDatas n ds = true → Rps W F ds vs → DpAll X.K H vs (toPys ds)
  | n, [], _, _, r => by cases (show _ = [] from r); exact .nil
  | n, d :: ds, _, h, r => by
    obtain ⟨v, q, e, r1, r2⟩ := r
    subst e
    have h' : isData n d = true ∧ isDatas n ds = true := by simpa [isDatas] using h
    exact .cons (dp_of hK sub n d v h'.1 r1) (dps_of hK sub n ds q h'.2 r2)
end
mutual
theorem lay_of : ∀ (n : Nat) (d : D), isData n d = true → (toPy d).canLay0 = true ∧ (toPy d).depth ≤ n
  | n, .non, _ => by simp [toPy, PyData.canLay0, PyData.depth]
  | n, .bl b, _ => by simp [toPy, PyData.canLay0, PyData.depth]
  | n, .int i, _ => by simp [toPy, PyData.canLay0, PyData.depth]
  | n, .str s, h => by
    have h' : s.all (fun c => decide (c < 1114112)) = true := by cases n <;> simpa [isData] using h
    simp only [toPy, PyData.canLay0, PyData.depth, PyData.strOk, Nat.zero_le, and_true]
    simpa using h'
  | n, .fn _, h => by cases n <;> simp [isData] at h
  | n, .scr _, h => by cases n <;> simp [isData] at h
  | n, .dct _ _ _, h => by cases n <;> simp [isData] at h
  | n, .ins _ _ _, h => by cases n <;> simp [isData] at h
  | 0, .tup _, h => by simp [isData] at h
  | 0, .lst _, h => by simp [isData] at h
  | n + 1, .tup xs, h => by
    have := lays_of n xs (by simpa [isData] using h)
    simp only [toPy, PyData.canLay0, PyData.depth]
    exact ⟨this.1, Nat.succ_le_succ this.2⟩
  | n + 1, .lst xs, h => by
    have := lays_of n xs (by simpa [isData] using h)
    simp only [toPy, PyData.canLay0, PyData.depth]
    exact ⟨this.1, Nat.succ_le_succ this.2⟩
theorem lays_of : ∀ (n : Nat) (ds : List D), isDatas n ds = true → PyData.canLayAll0 (toPys ds) = true ∧ PyData.depthAll (toPys ds) ≤ n
  | n, [], _ => by simp [toPys, PyData.canLayAll0, PyData.depthAll]
  | n, d :: ds, h => by
    have h' : isData n d = true ∧ isDatas n ds = true := by simpa [isDatas] using h
    have h1 := lay_of n d h'.1
    have h2 := lays_of n ds h'.2
    simp only [toPys, PyData.canLayAll0, PyData.depthAll, h1.1, h2.1, Bool.and_self, true_and]
    exact Nat.max_le.mpr ⟨h1.2, h2.2⟩
end
theorem shaped_of {d : D} (h : isData 64 d = true) : SeqAt.shaped (toPy d) = true := by
  have := lay_of 64 d h
  simp [SeqAt.shaped, this.1, this.2]
theorem nz_int {d : D} {i : Int} : nz d = .int i ↔ d = .int i ∨ ∃ b, d = .bl b ∧ i = (if b then 1 else 0) := by
  cases d <;> simp [nz, eq_comm]
mutual
theorem eqv_py : ∀ (n m : Nat) (d e : D), isData n d = true → isData m e = true → PyData.eqv (toPy d) (toPy e) = eqv d e
  | n, m, .fn _, _, h, _ => by cases n <;> simp [isData] at h
  | n, m, .scr _, _, h, _ => by cases n <;> simp [isData] at h
  | n, m, .dct _ _ _, _, h, _ => by cases n <;> simp [isData] at h
  | n, m, .ins _ _ _, _, h, _ => by cases n <;> simp [isData] at h
  | n, m, .non, e, _, h => by cases e <;> (try (cases m <;> simp [isData] at h; done)) <;> simp [toPy, PyData.eqv, eqv, nz, D.beq]
  | n, m, .bl b, e, _, h => by
    cases e <;> (try (cases m <;> simp [isData] at h; done)) <;> simp [toPy, PyData.eqv, eqv, nz, D.beq] 
    all_goals (try (rename_i b'; cases b <;> cases b' <;> simp; done))
    all_goals (try rfl)
  | n, m, .int i, e, _, h => by
    cases e <;> (try (cases m <;> simp [isData] at h; done)) <;> simp [toPy, PyData.eqv, eqv, nz, D.beq] <;> (try rfl)
  | n, m, .str s, e, _, h => by
    cases e <;> (try (cases m <;> simp [isData] at h; done)) <;> simp [toPy, PyData.eqv, eqv, nz, D.beq]
    rw [Bool.eq_iff_iff]
    simp [str_eq]
  | 0, _, .tup _, _, h, _ => by simp [isData] at h
  | 0, _, .lst _, _, h, _ => by simp [isData] at h
  | n + 1, m, .tup xs, e, h, h2 => by
    cases e <;> (try (cases m <;> simp [isData] at h2; done)) <;> simp [toPy, PyData.eqv, eqv, nz, D.beq]
    rename_i ys
    cases m with
    | zero => simp [isData] at h2
    | succ m => exact eqvs_py n m xs ys (by simpa [isData] using h) (by simpa [isData] using h2)
  | n + 1, m, .lst xs, e, h, h2 => by
    cases e <;> (try (cases m <;> simp [isData] at h2; done)) <;> simp [toPy, PyData.eqv, eqv, nz, D.beq]
    rename_i ys
    cases m with
    | zero => simp [isData] at h2
    | succ m => exact eqvs_py n m xs ys (by simpa [isData] using h) (by simpa [isData] using h2)
theorem eqvs_py : ∀ (n m : Nat) (d e : List D), isDatas n d = true → isDatas m e = true → PyData.eqvAll (toPys d) (toPys e) = D.beqs (nzs d) (nzs e)
  | n, m, [], [], _, _ => by simp [toPys, PyData.eqvAll, nzs, D.beqs]
  | n, m, [], _ :: _, _, _ => by simp [toPys, PyData.eqvAll, nzs, D.beqs]
  | n, m, _ :: _, [], _, _ => by simp [toPys, PyData.eqvAll, nzs, D.beqs]
  | n, m, x :: xs, y :: ys, h, h2 => by
    have h' : isData n x = true ∧ isDatas n xs = true := by simpa [isDatas] using h
    have h2' : isData m y = true ∧ isDatas m ys = true := by simpa [isDatas] using h2
    simp only [toPys, PyData.eqvAll, nzs, D.beqs]
    rw [eqv_py n m x y h'.1 h2'.1, eqvs_py n m xs ys h'.2 h2'.2]
    rfl
end
/-! ### dicts: what is found -/
theorem zip_fs {τ : Type} : ∀ kvs : List (D × τ), (kvs.map (·.1)).zip (kvs.map (·.2)) = kvs
  | [] => rfl
  | p :: r => by simp [zip_fs r]
theorem eqv_keyK {d1 d2 : D} {c1 c2 : Key} (h1 : keyK d1 = some c1) (h2 : keyK d2 = some c2) : eqv d1 d2 = decide (c1 = c2) := by
  cases d1 <;> simp [keyK] at h1 <;> cases d2 <;> simp [keyK] at h2 <;> subst h1 <;> subst h2 <;> simp [eqv, nz, D.beq, str_eq]
theorem eqv_keyKs : ∀ {d1 d2 : List D} {c1 c2 : List Key}, keyKs d1 = some c1 → keyKs d2 = some c2 → D.beqs (nzs d1) (nzs d2) = decide (c1 = c2)
  | [], [], c1, c2, h1, h2 => by cases h1; cases h2; rfl
  | [], d :: ds, c1, c2, h1, h2 => by
    cases h1
    simp only [keyKs] at h2
    cases e1 : keyK d with
    | none => rw [e1] at h2; cases h2
    | some k =>
      cases e2 : keyKs ds with
      | none => rw [e1, e2] at h2; cases h2
      | some ks => rw [e1, e2] at h2; cases h2; rfl
  | d :: ds, [], c1, c2, h1, h2 => by
    cases h2
    simp only [keyKs] at h1
    cases e1 : keyK d with
    | none => rw [e1] at h1; cases h1
    | some k =>
      cases e2 : keyKs ds with
      | none => rw [e1, e2] at h1; cases h1
      | some ks => rw [e1, e2] at h1; cases h1; rfl
  | d :: ds, e :: es, c1, c2, h1, h2 => by
    simp only [keyKs] at h1 h2
    cases e1 : keyK d with
    | none => rw [e1] at h1; cases h1
    | some k =>
      cases e2 : keyKs ds with
      | none => rw [e1, e2] at h1; cases h1
      | some ks =>
        cases e3 : keyK e with
        | none => rw [e3] at h2; cases h2
        | some k' =>
          cases e4 : keyKs es with
          | none => rw [e3, e4] at h2; cases h2
          | some ks' =>
            rw [e1, e2] at h1; rw [e3, e4] at h2
            cases h1; cases h2
            have a := eqv_keyK e1 e3
            have b := eqv_keyKs e2 e4
            unfold eqv at a
            show (D.beq (nz d) (nz e) && D.beqs (nzs ds) (nzs es)) = _
            rw [a, b, Bool.eq_iff_iff]
            simp
theorem eqv_keyT {d1 d2 : D} {c1 c2 : List Key} (h1 : keyT d1 = some c1) (h2 : keyT d2 = some c2) : eqv d1 d2 = decide (c1 = c2) := by
  cases d1 <;> simp [keyT] at h1
  cases d2 <;> simp [keyT] at h2
  exact eqv_keyKs h1 h2
section
variable {κ τ : Type} [DecidableEq κ] {key : D → Option κ} {R : τ → V → Prop}
theorem find_rel (hk : ∀ {d1 d2 c1 c2}, key d1 = some c1 → key d2 = some c2 → eqv d1 d2 = decide (c1 = c2)) {k : D} {c : κ} (hc : key k = some c) : ∀ {ks : List D} {kk : List κ} {xs : List τ} {ws : List V}, ks.map key = kk.map some → kk.length = ws.length → Paired R xs ws →
    (kvFind (ks.zip xs) k = none ∧ valV (kk.zip ws) c = none) ∨ ∃ z w, kvFind (ks.zip xs) k = some z ∧ valV (kk.zip ws) c = some w ∧ R z w
  | [], [], xs, ws, _, hl, r => .inl ⟨by simp [kvFind], by simp [valV]⟩
  | [], _ :: _, _, _, h, _, _ => by simp at h
  | _ :: _, [], _, _, h, _, _ => by simp at h
  | d :: ks, q :: kk, xs, ws, h, hl, r => by
    rw [List.map_cons, List.map_cons] at h
    injection h with h1 h2
    cases r with
    | nil => simp at hl
    | @cons x w xs ws hx hr =>
      have ih := find_rel hk hc (xs := xs) (ws := ws) h2 (by simpa using hl) hr
      have e := hk h1 hc
      unfold kvFind valV at *
      by_cases hq : q = c
      · rw [decide_eq_true hq] at e
        refine .inr ⟨x, w, ?_, ?_, hx⟩
        · simp [e]
        · simp [hq]
      · rw [decide_eq_false hq] at e
        simp only [List.zip_cons_cons, List.find?_cons, e, decide_eq_false hq]
        exact ih
end
theorem rps_paired {F : Hp} : ∀ {ds : List D} {ws : List V}, Rps W F ds ws → Paired (Rp W F) ds ws
  | [], ws, r => by cases (show ws = [] from r); exact .nil
  | d :: ds, ws, r => by
    obtain ⟨v, q, e, r1, r2⟩ := r
    subst e
    exact .cons r1 (rps_paired r2)
theorem vls_paired {α : Nat → Addr} {F : Hp} {N : Nat} {xs : List Vl} {ws : List V} (r : VlRs W α F N xs ws) : Paired (VlR W α F N) xs ws := by
  induction r with
  | nil => exact .nil
  | cons a _ ih => exact .cons a ih
/-- a key as a value: what DGet and DPut ask -/
theorem key_flat {F : Hp} {k : D} {c : Key} {y : V} (h : keyK k = some c) (r : Rp W F k y) : y = kV c := by
  cases k <;> simp [keyK] at h <;> subst h <;> exact r
theorem keys_flat {F : Hp} : ∀ {ks : List D} {cs : List Key} {ys : List V}, keyKs ks = some cs → Rps W F ks ys → ys = cs.map kV
  | [], cs, ys, h, r => by cases h; exact r
  | k :: ks, cs, ys, h, r => by
    obtain ⟨v, q, e, r1, r2⟩ := r
    subst e
    simp only [keyKs] at h
    cases e1 : keyK k with
    | none => rw [e1] at h; cases h
    | some c =>
      cases e2 : keyKs ks with
      | none => rw [e1, e2] at h; cases h
      | some cs' =>
        rw [e1, e2] at h
        cases h
        rw [List.map_cons, ← key_flat e1 r1, ← keys_flat e2 r2]
theorem keyKs_of : ∀ {ks : List D}, ks.all flatKey = true → ∃ cs, keyKs ks = some cs
  | [], _ => ⟨[], rfl⟩
  | k :: ks, h => by
    rw [List.all_cons, Bool.and_eq_true] at h
    obtain ⟨cs, e⟩ := keyKs_of h.2
    obtain ⟨k1, h1⟩ := h
    cases k <;> simp [flatKey] at k1
    · rename_i i; exact ⟨.inl i :: cs, by simp [keyKs, keyK, e]⟩
    · rename_i z; exact ⟨.inr ⟨z.toArray⟩ :: cs, by simp [keyKs, keyK, e]⟩
/-- what a dict gives at a key -/
theorem dget_of {τ : Type} {R : τ → V → Prop} {a : Addr} {t : Bool} {ks : List D} {ws : List V} {xs : List τ} {k : D} (q : DctR H a t ks ws) (rr : Paired R xs ws) (hk : keyOk t k = true) (ry : Rp W F k u) (sub : Sub F H) :
    (kvFind (ks.zip xs) k = none ∧ DGet H a u none) ∨ ∃ z w, kvFind (ks.zip xs) k = some z ∧ R z w ∧ DGet H a u (some w) := by
  rcases q with ⟨rfl, kk, h1, h2, h3⟩ | ⟨rfl, kk, h1, h2, h3⟩
  · obtain ⟨c, hc⟩ : ∃ c, keyK k = some c := by cases k <;> simp [keyOk] at hk <;> exact ⟨_, rfl⟩
    have hy := key_flat hc ry
    subst hy
    rcases find_rel (fun h1 h2 => eqv_keyK h1 h2) hc h1 h2 rr with ⟨e1, e2⟩ | ⟨z, w, e1, e2, hr⟩
    · exact .inl ⟨e1, by rw [← e2]; exact DGet.k h3⟩
    · exact .inr ⟨z, w, e1, hr, by rw [← e2]; exact DGet.k h3⟩
  · obtain ⟨ds, rfl, hall⟩ : ∃ ds, k = .tup ds ∧ ds.all flatKey = true := by cases k <;> simp [keyOk] at hk; exact ⟨_, rfl, by simpa using hk⟩
    obtain ⟨c, hc⟩ := keyKs_of hall
    obtain ⟨b, vs, rfl, hb, rs⟩ := ry
    have hy := keys_flat hc rs
    subst hy
    have hb' := sub _ _ hb
    rcases find_rel (key := keyT) (fun h1 h2 => eqv_keyT h1 h2) (k := .tup ds) hc h1 h2 rr with ⟨e1, e2⟩ | ⟨z, w, e1, e2, hr⟩
    · exact .inl ⟨e1, by rw [← e2]; exact DGet.t h3 hb'⟩
    · exact .inr ⟨z, w, e1, hr, by rw [← e2]; exact DGet.t h3 hb'⟩
section
variable {κ : Type} [DecidableEq κ] {key : D → Option κ} {α : Nat → Addr} {N : Nat}
theorem any_rel (hk : ∀ {d1 d2 c1 c2}, key d1 = some c1 → key d2 = some c2 → eqv d1 d2 = decide (c1 = c2)) {k : D} {c : κ} (hc : key k = some c) : ∀ {kvs : List (D × Vl)} {kk : List κ} {ws : List V}, (kvs.map (·.1)).map key = kk.map some → kk.length = ws.length →
    (kvs.any fun kv => eqv kv.1 k) = (kk.zip ws).any fun kv => decide (kv.1 = c)
  | [], [], ws, _, _ => by simp
  | [], _ :: _, _, h, _ => by simp at h
  | _ :: _, [], _, h, _ => by simp at h
  | p :: kvs, q :: kk, [], h, hl => by simp at hl
  | p :: kvs, q :: kk, w :: ws, h, hl => by
    rw [List.map_cons, List.map_cons, List.map_cons] at h
    injection h with h1 h2
    rw [List.zip_cons_cons, List.any_cons, List.any_cons, hk h1 hc, any_rel hk hc h2 (by simpa using hl)]
theorem map_rel (hk : ∀ {d1 d2 c1 c2}, key d1 = some c1 → key d2 = some c2 → eqv d1 d2 = decide (c1 = c2)) {k : D} {c : κ} (hc : key k = some c) {F : Hp} {x : Vl} {w : V} (hx : VlR W α F N x w) : ∀ {kvs : List (D × Vl)} {kk : List κ} {ws : List V}, (kvs.map (·.1)).map key = kk.map some → kk.length = ws.length → VlRs W α F N (kvs.map (·.2)) ws →
    ∃ ws' : List V, (kk.zip ws).map (fun kv => if kv.1 = c then (kv.1, w) else kv) = kk.zip ws' ∧ ws'.length = ws.length ∧ VlRs W α F N ((kvs.map fun kv => if eqv kv.1 k then (kv.1, x) else kv).map (·.2)) ws'
  | [], [], ws, _, hl, r => by
    cases r
    exact ⟨[], rfl, rfl, .nil⟩
  | [], _ :: _, _, h, _, _ => by simp at h
  | _ :: _, [], _, h, _, _ => by simp at h
  | p :: kvs, q :: kk, [], h, hl, _ => by simp at hl
  | p :: kvs, q :: kk, v :: ws, h, hl, r => by
    rw [List.map_cons, List.map_cons, List.map_cons] at h
    injection h with h1 h2
    cases r with
    | cons r1 r2 =>
      obtain ⟨ws', e, l, rr⟩ := map_rel hk hc hx h2 (by simpa using hl) r2
      have e1 := hk h1 hc
      by_cases hq : q = c
      · rw [decide_eq_true hq] at e1
        refine ⟨w :: ws', ?_, by simp [l], ?_⟩
        · rw [List.zip_cons_cons, List.map_cons, List.zip_cons_cons, e, if_pos hq]
        · rw [List.map_cons, List.map_cons, if_pos e1]
          exact .cons hx rr
      · rw [decide_eq_false hq] at e1
        refine ⟨v :: ws', ?_, by simp [l], ?_⟩
        · rw [List.zip_cons_cons, List.map_cons, List.zip_cons_cons, e, if_neg hq]
        · rw [List.map_cons, List.map_cons, if_neg (by rw [e1]; exact Bool.false_ne_true)]
          exact .cons r1 rr
theorem put_keys (k : D) (x : Vl) (kvs : List (D × Vl)) : (kvPut kvs k x).map (·.1) = if kvs.any (fun kv => eqv kv.1 k) then kvs.map (·.1) else kvs.map (·.1) ++ [k] := by
  unfold kvPut
  split
  · rw [List.map_map]
    apply List.map_congr_left
    intro p _
    show (if eqv p.1 k = true then (p.1, x) else p).1 = p.1
    split <;> rfl
  · simp
theorem put_rel (hk : ∀ {d1 d2 c1 c2}, key d1 = some c1 → key d2 = some c2 → eqv d1 d2 = decide (c1 = c2)) {k : D} {c : κ} (hc : key k = some c) {F : Hp} {x : Vl} {w : V} (hx : VlR W α F N x w) {kvs : List (D × Vl)} {kk : List κ} {ws : List V} (h : (kvs.map (·.1)).map key = kk.map some) (hl : kk.length = ws.length) (r : VlRs W α F N (kvs.map (·.2)) ws) :
    ∃ (kk' : List κ) (ws' : List V), putK (kk.zip ws) c w = kk'.zip ws' ∧ ((kvPut kvs k x).map (·.1)).map key = kk'.map some ∧ kk'.length = ws'.length ∧ VlRs W α F N ((kvPut kvs k x).map (·.2)) ws' := by
  have ha := any_rel hk hc h hl
  rw [put_keys]
  unfold putK kvPut
  by_cases e : (kvs.any fun kv => eqv kv.1 k) = true
  · rw [if_pos e, if_pos e, if_pos (by rw [← ha]; exact e)]
    obtain ⟨ws', e1, l, rr⟩ := map_rel hk hc hx h hl r
    exact ⟨kk, ws', e1, h, by rw [l]; exact hl, rr⟩
  · rw [if_neg e, if_neg e, if_neg (by rw [← ha]; exact e)]
    refine ⟨kk ++ [c], ws ++ [w], ?_, ?_, by simp [hl], ?_⟩
    · rw [List.zip_append hl]; rfl
    · rw [List.map_append, List.map_append, h, List.map_cons, List.map_nil, hc]; rfl
    · rw [List.map_append]
      exact r.append (.cons hx .nil)
end
theorem dct_len {kvs : List (D × Vl)} {κ : Type} {key : D → Option κ} {kk : List κ} {ws : List V} (h : (kvs.map (·.1)).map key = kk.map some) (hl : kk.length = ws.length) : (kk.zip ws).length = kvs.length := by
  have := congrArg List.length h
  simp at this
  simp [hl, this]
/-- a store into a dict -/
theorem dput_of {α : Nat → Addr} {N : Nat} {a : Addr} {t : Bool} {kvs : List (D × Vl)} {ws : List V} {k : D} {x : Vl} {w : V} (q : DctR H a t (kvs.map (·.1)) ws) (rr : VlRs W α F N (kvs.map (·.2)) ws) (hk : keyOk t k = true) (ry : Rp W F k u) (sub : Sub F H) (hx : VlR W α F N x w) (hz : kvs.length < most) :
    ∃ o ws', DPut H a u w (upd H a o) ∧ DctR (upd H a o) a t ((kvPut kvs k x).map (·.1)) ws' ∧ VlRs W α F N ((kvPut kvs k x).map (·.2)) ws' := by
  rcases q with ⟨rfl, kk, h1, h2, h3⟩ | ⟨rfl, kk, h1, h2, h3⟩
  · obtain ⟨c, hc⟩ : ∃ c, keyK k = some c := by cases k <;> simp [keyOk] at hk <;> exact ⟨_, rfl⟩
    have hy := key_flat hc ry
    subst hy
    obtain ⟨kk', ws', e1, e2, e3, e4⟩ := put_rel (fun h1 h2 => eqv_keyK h1 h2) hc hx h1 h2 rr
    refine ⟨.dK (putK (kk.zip ws) c w), ws', DPut.k h3 (by rw [dct_len h1 h2, ← most_eq]; exact hz), .inl ⟨rfl, kk', e2, e3, by rw [upd_same, e1]⟩, e4⟩
  · obtain ⟨ds, rfl, hall⟩ : ∃ ds, k = .tup ds ∧ ds.all flatKey = true := by cases k <;> simp [keyOk] at hk; exact ⟨_, rfl, by simpa using hk⟩
    obtain ⟨c, hc⟩ := keyKs_of hall
    obtain ⟨b, vs, rfl, hb, rs⟩ := ry
    have hy := keys_flat hc rs
    subst hy
    have hb' := sub _ _ hb
    obtain ⟨kk', ws', e1, e2, e3, e4⟩ := put_rel (key := keyT) (fun h1 h2 => eqv_keyT h1 h2) (k := .tup ds) hc hx h1 h2 rr
    refine ⟨.dT (putK (kk.zip ws) c w), ws', DPut.t h3 hb' (by rw [dct_len h1 h2, ← most_eq]; exact hz), .inr ⟨rfl, kk', e2, e3, by rw [upd_same, e1]⟩, e4⟩
end
end Z
end

section
set_option maxHeartbeats 1000000
/-! Z7: the operators' rules. -/
namespace Z
open PySem L2

section
variable {X : Cx} {W : Wd} {E : XK} {Es : SX} {a b e : Expr} {pos : Pos} {fa fb : Env → Sto → Res Vl}
variable {α : Nat → Addr} {F : Hp} {S : Sto} {H : Hp} {Q : VK} {x y : Vl} {v u : V}

theorem VlR.int {i : Int} {N : Nat} (r : VlR W α F N (.d (.int i)) v) : v = .int i := r
theorem VlR.str {z : Tx} {N : Nat} (r : VlR W α F N (.d (.str z)) v) : v = .str ⟨z.toArray⟩ := r

/-- two ints -/
theorem bin_int {C : Int → Int → Prop} {c : Int → Int → Bool} {g : Int → Int → Int} (hc : ∀ i j, c i j = true → C i j)
    (s : Sr W α F S H) (rx : VlR W α F S.length x v) (ry : VlR W α F S.length y u) (p : Post W E (VlX W) α F S H (opI c g x y S) Q) : rI C (fun i j => .int (g i j)) v u H Q := by
  cases x with
  | p n => exact p.elim
  | d x =>
    cases x with
    | int i =>
      cases y with
      | p n => exact p.elim
      | d y =>
        cases y with
        | int j =>
          have p : Post W E (VlX W) α F S H (if c i j then .ok (.d (.int (g i j))) S else .bad) Q := p
          by_cases h : c i j = true
          · rw [if_pos h] at p
            exact ⟨i, j, rx, ry, hc i j h, p.here s rfl⟩
          · rw [if_neg h] at p
            exact p.elim
        | _ => exact p.elim
    | _ => exact p.elim
theorem cMul_iff {i j : Int} : cMul i j = true ↔ CMul i j := by simp [cMul, CMul]
theorem cPow_iff {i j : Int} : cPow i j = true ↔ CPow i j := by simp [cPow, CPow, and_assoc]

theorem bin_cat (s : Sr W α F S H) (rx : VlR W α F S.length x v) (ry : VlR W α F S.length y u) (p : Post W E (VlX W) α F S H (catL x y S) Q) : rCat v u H Q := by
  unfold catL at p
  cases ex : listOf x S with
  | none => rw [ex] at p; exact p.elim
  | some xs =>
    cases ey : listOf y S with
    | none => rw [ex, ey] at p; exact p.elim
    | some ys =>
      rw [ex, ey] at p
      simp only at p
      cases px : pures xs with
      | none => rw [px] at p; exact p.elim
      | some ds =>
        cases py : pures ys with
        | none => rw [px, py] at p; exact p.elim
        | some es =>
          rw [px, py] at p
          simp only at p
          by_cases hz : ds.length + es.length ≤ most
          · rw [if_pos (by simpa using hz)] at p
            obtain ⟨a, vs, rfl, q1, r1⟩ := rx.list s ex
            obtain ⟨b, us, rfl, q2, r2⟩ := ry.list s ey
            have r1 := r1.pures px
            have r2 := r2.pures py
            exact ⟨a, b, vs, us, rfl, rfl, q1, q2, by rw [← r1.length, ← r2.length, ← most_eq]; exact hz, fun l hl => fin_lst p s (r1.append r2) hl⟩
          · rw [if_neg (by simpa using hz)] at p
            exact p.elim
abbrev rAddS : R2 := fun x y H Q => ∃ i j, x = .str i ∧ y = .str j ∧ i.length + j.length ≤ sizeLine ∧ Q (.str (i ++ j)) H
theorem bin_add (hK : W.K = X.K) (s : Sr W α F S H) (rx : VlR W α F S.length x v) (ry : VlR W α F S.length y u) (p : Post W E (VlX W) α F S H (opAdd x y S) Q) :
    ((rI0 fun i j => V.int (i + j)) v u H Q ∨ rAddS v u H Q) ∨ (rCatA X.K v u H Q ∨ rCat v u H Q) := by
  cases x with
  | p n => exact .inr (.inr (bin_cat s rx ry p))
  | d x =>
    cases x with
    | int i =>
      cases y with
      | p n => exact p.elim
      | d y =>
        cases y with
        | int j => exact .inl (.inl ⟨i, j, rx, ry, p.here s rfl⟩)
        | _ => exact p.elim
    | str i =>
      cases y with
      | p n => exact p.elim
      | d y =>
        cases y with
        | str j =>
          have p : Post W E (VlX W) α F S H (if decide (i.length + j.length ≤ most) then .ok (.d (.str (i ++ j))) S else .bad) Q := p
          by_cases hz : i.length + j.length ≤ most
          · rw [if_pos (by simpa using hz)] at p
            refine .inl (.inr ⟨_, _, rx, ry, by rw [str_len, str_len, ← most_eq]; exact hz, ?_⟩)
            rw [str_app]
            exact p.here s rfl
          · rw [if_neg (by simpa using hz)] at p
            exact p.elim
        | _ => exact p.elim
    | tup i =>
      cases y with
      | p n => exact p.elim
      | d y =>
        cases y with
        | tup j =>
          have p : Post W E (VlX W) α F S H (if decide (i.length + j.length ≤ most) then .ok (.d (.tup (i ++ j))) S else .bad) Q := p
          by_cases hz : i.length + j.length ≤ most
          · rw [if_pos (by simpa using hz)] at p
            obtain ⟨a, vs, rfl, q1, r1⟩ := (show Rp W F (.tup i) v from rx)
            obtain ⟨b, us, rfl, q2, r2⟩ := (show Rp W F (.tup j) u from ry)
            refine .inr (.inl ⟨a, b, vs, us, rfl, rfl, by rw [← hK]; exact s.sub.sqT (.of q1), by rw [← hK]; exact s.sub.sqT (.of q2), by rw [← r1.length, ← r2.length, ← most_eq]; exact hz, fun e => ?_, fun _ e => ?_, fun _ _ l hl => ?_⟩)
            · subst e
              have := r1.length
              cases i with
              | nil => rw [List.nil_append] at p; exact p.here s ⟨b, us, rfl, q2, r2⟩
              | cons _ _ => simp at this
            · subst e
              have := r2.length
              cases j with
              | nil => rw [List.append_nil] at p; exact p.here s ⟨a, vs, rfl, q1, r1⟩
              | cons _ _ => simp at this
            · exact fin_tup p s (r1.append r2) hl
          · rw [if_neg (by simpa using hz)] at p
            exact p.elim
        | _ => exact p.elim
    | _ => exact .inr (.inr (bin_cat s rx ry p))
theorem Rps.flat {ds : List D} {vs : List V} (r : Rps W F ds vs) : ∀ k : Nat, Rps W F (List.replicate k ds).flatten (List.replicate k vs).flatten
  | 0 => rfl
  | k + 1 => by
    rw [List.replicate_succ, List.replicate_succ, List.flatten_cons, List.flatten_cons]
    exact r.append (Rps.flat r k)
theorem bin_mul (s : Sr W α F S H) (rx : VlR W α F S.length x v) (ry : VlR W α F S.length y u) (p : Post W E (VlX W) α F S H (opMul x y S) Q) :
    rI CMul (fun i j => .int (i * j)) v u H Q ∨ rRep v u H Q := by
  have rep : ∀ {x : Vl} {j : Int}, VlR W α F S.length x v → u = .int j → Post W E (VlX W) α F S H (repL x j S) Q → rRep v u H Q := fun {x j} rx ry p => by
    unfold repL at p
    cases ex : listOf x S with
    | none => rw [ex] at p; exact p.elim
    | some xs =>
      rw [ex] at p
      simp only at p
      cases px : pures xs with
      | none => rw [px] at p; exact p.elim
      | some ds =>
        rw [px] at p
        simp only at p
        by_cases hz : (decide (-(2 ^ 63) ≤ j) && decide (j < 2 ^ 63) && decide (ds.length * j.toNat ≤ most)) = true
        · rw [if_pos hz] at p
          simp only [Bool.and_eq_true, decide_eq_true_eq] at hz
          obtain ⟨a, vs, rfl, q1, r1⟩ := rx.list s ex
          have r1 := r1.pures px
          exact ⟨a, j, vs, rfl, ry, q1, hz.1.1, hz.1.2, by rw [← r1.length, ← most_eq]; exact hz.2, fun l hl => fin_lst p s (r1.flat j.toNat) hl⟩
        · rw [if_neg hz] at p
          exact p.elim
  cases y with
  | p n => exact p.elim
  | d y =>
    cases y with
    | int j =>
      cases x with
      | p n => exact .inr (rep rx ry p)
      | d x =>
        cases x with
        | int i =>
          have p : Post W E (VlX W) α F S H (if cMul i j then .ok (.d (.int (i * j))) S else .bad) Q := p
          by_cases h : cMul i j = true
          · rw [if_pos h] at p
            exact .inl ⟨i, j, rx, ry, cMul_iff.mp h, p.here s rfl⟩
          · rw [if_neg h] at p
            exact p.elim
        | _ => exact .inr (rep rx ry p)
    | _ => exact p.elim
theorem OpR.imp {f : Value → Value → Sem Value} {r r' : R2} (h : OpR X f r) (k : ∀ x y H Q, r' x y H Q → r x y H Q) : OpR X f r' := fun pins s σ H x y v u Q I rx ry q => h pins s σ H x y v u Q I rx ry (k _ _ _ _ q)

theorem de_op (hK : W.K = X.K) {op : Operator} {o : Op} (ho : cOp op = some o) (ha : PE X a (tD W Es fa)) (hb : PE X b (tD W Es fb)) :
    PE X (.BinOp a op b pos) (tD W Es fun ρ S => (fa ρ S).bind fun x S => (fb ρ S).bind fun y S => binop o x y S) := by
  cases op <;> simp [cOp] at ho <;> subst ho
  · exact peI (pe_op ((op_add.or op_add_str).or (op_catA.or op_cat)) ha hb) fun σ H Q h => two h fun s rx ry p => bin_add hK s rx ry p
  · exact peI (pe_op op_sub ha hb) fun σ H Q h => two h fun s rx ry p => by
      obtain ⟨i, j, e1, e2, _, q⟩ := bin_int (C := fun _ _ => True) (fun _ _ _ => trivial) s rx ry p
      exact ⟨i, j, e1, e2, q⟩
  · exact peI (pe_op (op_mul.or op_rep) ha hb) fun σ H Q h => two h fun s rx ry p => bin_mul s rx ry p
  · exact peI (pe_op op_mod ha hb) fun σ H Q h => two h fun s rx ry p => bin_int (fun _ _ h => of_decide_eq_true h) s rx ry p
  · exact peI (pe_op op_pow ha hb) fun σ H Q h => two h fun s rx ry p => bin_int (fun _ _ h => cPow_iff.mp h) s rx ry p
  · exact peI (pe_op op_shl ha hb) fun σ H Q h => two h fun s rx ry p => bin_int (fun _ _ h => cPow_iff.mp h) s rx ry p
  · exact peI (pe_op op_fdivW ha hb) fun σ H Q h => two h fun s rx ry p => bin_int (fun i j h => by
      rw [Bool.and_eq_true] at h
      have h1 := of_decide_eq_true h.1
      have h2 : j < 2 ^ 200 := of_decide_eq_true h.2
      exact wide_div (b := 200) h1 (by omega) (by decide) (by decide)) s rx ry p
theorem de_neg (ha : PE X a (tD W Es fa)) : PE X (.UnaryOp .USub a pos) (tD W Es fun ρ S => (fa ρ S).bind fun x S => match x with
    | .d (.int i) => .ok (.d (.int (-i))) S
    | _ => .bad) :=
  peI (pe_un un_neg ha) fun σ H Q h => one (g := fun x S => match x with
    | .d (.int i) => .ok (.d (.int (-i))) S
    | _ => .bad) h fun {E α F S H x v} s rx p => by
    cases x with
    | p n => exact p.elim
    | d x =>
      cases x with
      | int i => exact ⟨i, rx, p.here s rfl⟩
      | _ => exact p.elim
end
end Z
end

section
set_option maxHeartbeats 1000000
/-! Z8: comparisons. -/
namespace Z
open PySem L2

section
variable {X : Cx} {W : Wd} {E : XK} {Es : SX} {a b e : Expr} {pos : Pos} {fa fb : Env → Sto → Res Vl}
variable {α : Nat → Addr} {F : Hp} {S : Sto} {H : Hp} {Q : VK} {x y : Vl} {v u : V}

theorem VlR.data (s : Sr W α F S H) (r : VlR W α F S.length x v) {d : D} (h : dataOf x S = some d) : Rp W H d v := by
  cases x with
  | d d' =>
    cases h
    exact Rp.mono s.sub r
  | p n =>
    obtain ⟨e, hl⟩ := (show v = .ref (α n) ∧ n < S.length from r)
    simp only [dataOf] at h
    cases hn : S[n]? with
    | none => rw [hn] at h; cases h
    | some c =>
      rw [hn] at h
      cases c <;> simp at h
      rename_i xs
      obtain ⟨ds, hd, rfl⟩ := h
      obtain ⟨vs, hv, rr⟩ := s.cel n _ hn
      exact ⟨α n, vs, e, hv, Rps.mono s.sub (rr.pures hd)⟩
theorem bl_eq {i j : Bool} : decide (V.bl i = V.bl j) = (i == j) := dec_bl
theorem flat_eq {a b : D} (ha : isFlat a = true) (hb : isFlat b = true) (ra : Rp W F a v) (rb : Rp W F b u) :
    (scal v u = true ∧ eqv a b = decide (v = u)) ∨ (isData 64 a = true ∧ isData 64 b = true) := by
  cases a <;> simp [isFlat] at ha <;> cases b <;> simp [isFlat] at hb <;>
    simp only [Rp] at ra rb <;> subst ra <;> subst rb
  all_goals first
    | exact .inr ⟨rfl, rfl⟩
    | (refine .inl ⟨rfl, ?_⟩; simp [eqv, nz, D.beq, str_eq]; done)
    | skip
theorem cmp_eqv (hK : W.K = X.K) (neg : Bool) (s : Sr W α F S H) (rx : VlR W α F S.length x v) (ry : VlR W α F S.length y u) (p : Post W E (VlX W) α F S H (cEqv neg x y S) Q) :
    (∃ b, scal v u = true ∧ decide (v = u) = b ∧ Q (.bl (if neg then !b else b)) H) ∨ ∃ d e, Dp X.K H v d ∧ Dp X.K H u e ∧ SeqAt.shaped d = true ∧ SeqAt.shaped e = true ∧ Q (.bl (if neg then !PyData.eqv d e else PyData.eqv d e)) H := by
  unfold cEqv at p
  cases ex : dataOf x S with
  | none => rw [ex] at p; exact p.elim
  | some c =>
    cases ey : dataOf y S with
    | none => rw [ex, ey] at p; exact p.elim
    | some d =>
      rw [ex, ey] at p
      simp only at p
      have r1 := rx.data s ex
      have r2 := ry.data s ey
      by_cases hz : eqOk c d = true
      · rw [if_pos hz] at p
        have q := p.here s rfl
        have deep : isData 64 c = true → isData 64 d = true → ∃ d e, Dp X.K H v d ∧ Dp X.K H u e ∧ SeqAt.shaped d = true ∧ SeqAt.shaped e = true ∧ Q (.bl (if neg then !PyData.eqv d e else PyData.eqv d e)) H := fun h1 h2 => by
          refine ⟨toPy c, toPy d, dp_of hK (Sub.refl H) 64 c v h1 r1, dp_of hK (Sub.refl H) 64 d u h2 r2, shaped_of h1, shaped_of h2, ?_⟩
          rw [eqv_py 64 64 c d h1 h2]
          exact q
        unfold eqOk at hz
        rw [Bool.or_eq_true, Bool.and_eq_true, Bool.and_eq_true] at hz
        rcases hz with ⟨h1, h2⟩ | ⟨h1, h2⟩
        · rcases flat_eq h1 h2 r1 r2 with ⟨h3, h4⟩ | ⟨h3, h4⟩
          · exact .inl ⟨_, h3, h4.symm, q⟩
          · exact .inr (deep h3 h4)
        · exact .inr (deep h1 h2)
      · rw [if_neg hz] at p
        exact p.elim
theorem str_lt (a b : Tx) : decide ((⟨a.toArray⟩ : Str).cps.toList < (⟨b.toArray⟩ : Str).cps.toList) = ltTx a b := rfl
/-- an order of data that are alike -/
def rOrdD (K : PySem.W.Frag) (f : PyData → PyData → Bool) : R2 := fun x y H Q => ∃ d e, Dp K H x d ∧ Dp K H y e ∧ PySem.W.alike d e = true ∧ d ≠ .none ∧ SeqAt.shaped d = true ∧ Q (.bl (f d e)) H
theorem op_ltD (hu : X.A.units + 64 < cLine) : OpR X (compareOp .Lt) (rOrdD X.K PySem.W.dataLt) := by
  intro pins s σ H x y v u Q I rx ry h
  obtain ⟨d, e, hd, he, ha, hn, sd, q⟩ := h
  obtain ⟨as, r1⟩ := Dp.reads I d x v hd rx
  obtain ⟨bs, r2⟩ := Dp.reads I e y u he ry
  exact PySem.W.lt_data r1 r2 ha hn (SeqAt.room_of_shaped sd hu) ⟨.bl _, H, I, rfl, q⟩
theorem op_gtD (hu : X.A.units + 64 < cLine) : OpR X (compareOp .Gt) (rOrdD X.K fun a b => PySem.W.dataLt b a) := by
  intro pins s σ H x y v u Q I rx ry h
  obtain ⟨d, e, hd, he, ha, hn, sd, q⟩ := h
  obtain ⟨as, r1⟩ := Dp.reads I d x v hd rx
  obtain ⟨bs, r2⟩ := Dp.reads I e y u he ry
  exact PySem.W.gt_data r1 r2 ha hn (SeqAt.room_of_shaped sd hu) ⟨.bl _, H, I, rfl, q⟩
theorem op_leD (hu : X.A.units + 64 < cLine) : OpR X (compareOp .LtE) (rOrdD X.K fun a b => !PySem.W.dataLt b a) := by
  intro pins s σ H x y v u Q I rx ry h
  obtain ⟨d, e, hd, he, ha, hn, sd, q⟩ := h
  obtain ⟨as, r1⟩ := Dp.reads I d x v hd rx
  obtain ⟨bs, r2⟩ := Dp.reads I e y u he ry
  exact PySem.W.le_data r1 r2 ha hn (SeqAt.room_of_shaped sd hu) ⟨.bl _, H, I, rfl, q⟩
theorem op_geD (hu : X.A.units + 64 < cLine) : OpR X (compareOp .GtE) (rOrdD X.K fun a b => !PySem.W.dataLt a b) := by
  intro pins s σ H x y v u Q I rx ry h
  obtain ⟨d, e, hd, he, ha, hn, sd, q⟩ := h
  obtain ⟨as, r1⟩ := Dp.reads I d x v hd rx
  obtain ⟨bs, r2⟩ := Dp.reads I e y u he ry
  exact PySem.W.ge_data r1 r2 ha hn (SeqAt.room_of_shaped sd hu) ⟨.bl _, H, I, rfl, q⟩
theorem cmp_ord (hK : W.K = X.K) {f : Int → Int → Bool} {g : Tx → Tx → Bool} {h : D → D → Bool} {f' : Int → Int → Bool} {g' : Str → Str → Bool} {h' : PyData → PyData → Bool} (hf : ∀ i j, f i j = f' i j) (hg : ∀ i j, g i j = g' ⟨i.toArray⟩ ⟨j.toArray⟩) (hh : ∀ i j, h i j = h' (toPy i) (toPy j))
    (s : Sr W α F S H) (rx : VlR W α F S.length x v) (ry : VlR W α F S.length y u) (p : Post W E (VlX W) α F S H (cOrd f g h x y S) Q) :
    ((rI0 fun i j => .bl (f' i j)) v u H Q ∨ ∃ i j, v = .str i ∧ u = .str j ∧ Q (.bl (g' i j)) H) ∨ rOrdD X.K h' v u H Q := by
  cases x with
  | p n => exact p.elim
  | d x =>
    cases x with
    | int i =>
      cases y with
      | p n => exact p.elim
      | d y =>
        cases y with
        | int j => exact .inl (.inl ⟨i, j, rx, ry, by show Q (.bl (f' i j)) H; rw [← hf]; exact p.here s rfl⟩)
        | _ => exact p.elim
    | str i =>
      cases y with
      | p n => exact p.elim
      | d y =>
        cases y with
        | str j => exact .inl (.inr ⟨_, _, rx, ry, by rw [← hg]; exact p.here s rfl⟩)
        | _ => exact p.elim
    | tup a =>
      cases y with
      | p n => exact p.elim
      | d y =>
        cases y with
        | tup b =>
          have p : Post W E (VlX W) α F S H (if ordOk (.tup a) (.tup b) then .ok (.d (.bl (h (.tup a) (.tup b)))) S else .bad) Q := p
          by_cases hz : ordOk (.tup a) (.tup b) = true
          · rw [if_pos hz] at p
            unfold ordOk at hz
            simp only [Bool.and_eq_true] at hz
            refine .inr ⟨toPy (.tup a), toPy (.tup b), dp_of hK s.sub 64 _ _ hz.1.1.1 rx, dp_of hK s.sub 64 _ _ hz.1.1.2 ry, hz.1.2, by simp [toPy], shaped_of hz.1.1.1, ?_⟩
            rw [← hh]
            exact p.here s rfl
          · rw [if_neg hz] at p
            exact p.elim
        | _ => exact p.elim
    | lst a =>
      cases y with
      | p n => exact p.elim
      | d y =>
        cases y with
        | lst b =>
          have p : Post W E (VlX W) α F S H (if ordOk (.lst a) (.lst b) then .ok (.d (.bl (h (.lst a) (.lst b)))) S else .bad) Q := p
          by_cases hz : ordOk (.lst a) (.lst b) = true
          · rw [if_pos hz] at p
            unfold ordOk at hz
            simp only [Bool.and_eq_true] at hz
            refine .inr ⟨toPy (.lst a), toPy (.lst b), dp_of hK s.sub 64 _ _ hz.1.1.1 rx, dp_of hK s.sub 64 _ _ hz.1.1.2 ry, hz.1.2, by simp [toPy], shaped_of hz.1.1.1, ?_⟩
            rw [← hh]
            exact p.here s rfl
          · rw [if_neg hz] at p
            exact p.elim
        | _ => exact p.elim
    | _ => exact p.elim
theorem isNone_of (r : VlR W α F S.length x v) : isNone x = decide (v = .non) := by
  cases x with
  | p n => obtain ⟨e, _⟩ := (show v = .ref (α n) ∧ n < S.length from r); subst e; rfl
  | d d =>
    have r : Rp W F d v := r
    cases d <;> simp only [Rp] at r <;> first | (obtain ⟨_, _, _, e, _⟩ := r; subst e; rfl) | (obtain ⟨_, _, e, _⟩ := r; subst e; rfl) | (obtain ⟨_, e, _⟩ := r; subst e; rfl) | (subst r; rfl) | exact r.elim
/-- is of a bool: a bool, or None -/
def rIsX (neg : Bool) : R2 := fun x y H Q => ∃ b : Bool, y = .bl b ∧ ((∃ a : Bool, x = .bl a ∧ Q (.bl (if neg then !decide (a = b) else decide (a = b))) H) ∨ (x = .non ∧ Q (.bl neg) H))
theorem op_isX {X : L2.Cx} : OpR X (compareOp .Is) (rIsX false) := by
  intro pins s σ H x y v u Q I rx ry h
  obtain ⟨b, rfl, h⟩ := h
  rcases h with ⟨a, rfl, q⟩ | ⟨rfl, q⟩
  · exact op_isBl pins s σ H _ _ v u Q I rx ry ⟨a, b, rfl, rfl, q⟩
  · cases (show v = Value.none from rx)
    cases (show u = Value.bool b from ry)
    exact wpAny_is_other rfl (fun z => by cases z) ⟨.bl false, H, I, rfl, q⟩
theorem op_notX {X : L2.Cx} : OpR X (compareOp .IsNot) (rIsX true) := by
  intro pins s σ H x y v u Q I rx ry h
  obtain ⟨b, rfl, h⟩ := h
  rcases h with ⟨a, rfl, q⟩ | ⟨rfl, q⟩
  · exact op_notBl pins s σ H _ _ v u Q I rx ry ⟨a, b, rfl, rfl, q⟩
  · cases (show v = Value.none from rx)
    cases (show u = Value.bool b from ry)
    exact wpAny_isNot_other rfl (fun z => by cases z) ⟨.bl true, H, I, rfl, q⟩
theorem cmp_is (neg : Bool) (s : Sr W α F S H) (rx : VlR W α F S.length x v) (ry : VlR W α F S.length y u) (p : Post W E (VlX W) α F S H (cIs neg x y S) Q) :
    (u = .non ∧ Q (.bl (if neg then !decide (v = .non) else decide (v = .non))) H) ∨ rIsX neg v u H Q := by
  cases y with
  | p n => exact p.elim
  | d y =>
    cases y with
    | non =>
      have q := p.here s rfl
      rw [isNone_of rx] at q
      exact .inl ⟨ry, q⟩
    | bl b =>
      cases x with
      | p n => exact p.elim
      | d x =>
        cases x with
        | bl a => exact .inr ⟨b, ry, .inl ⟨a, rx, p.here s rfl⟩⟩
        | non => exact .inr ⟨b, ry, .inr ⟨rx, p.here s rfl⟩⟩
        | _ => exact p.elim
    | _ => exact p.elim
theorem flatV_of {d : D} (h : isFlat d = true) (r : Rp W F d v) : flatV v = true := by
  cases d <;> simp [isFlat] at h <;> simp only [Rp] at r <;> subst r <;> rfl
theorem eqV_of {d e : D} (h : isFlat d = true) (h' : isFlat e = true) (r : Rp W F d v) (r' : Rp W F e u) : eqV v u = eqv d e := by
  cases d <;> simp [isFlat] at h <;> cases e <;> simp [isFlat] at h' <;> simp only [Rp] at r r' <;> subst r <;> subst r'
  all_goals first
    | rfl
    | (simp [eqV, eqv, nz, D.beq]; done)
    | (rename_i b b'; cases b <;> cases b' <;> rfl)
    | (rename_i b b'; cases b <;> simp [eqV, eqv, nz, D.beq, eq_comm] <;> rfl)
    | (rename_i b b'; cases b' <;> simp [eqV, eqv, nz, D.beq, eq_comm] <;> rfl)
    | (rename_i b b'; show decide _ = decide _; simp [str_eq]; done)
    | (rename_i b b'; show (_ == _) = decide _; rw [Bool.eq_iff_iff]; simp [str_eq]; done)
theorem memV_of {d : D} (h : isFlat d = true) (r : Rp W F d v) : ∀ {ds : List D} {vs : List V}, ds.all isFlat = true → Rps W F ds vs → vs.all flatV = true ∧ inV v vs = ds.any fun e => eqv e d
  | [], _, _, q => by cases (show _ = [] from q); exact ⟨rfl, rfl⟩
  | c :: ds, _, ha, q => by
    obtain ⟨w, r0, e, r1, r2⟩ := q
    subst e
    rw [List.all_cons, Bool.and_eq_true] at ha
    obtain ⟨h1, h2⟩ := memV_of h r ha.2 r2
    refine ⟨by rw [List.all_cons, flatV_of ha.1 r1, h1]; rfl, ?_⟩
    unfold inV at h2 ⊢
    rw [List.any_cons, List.any_cons, h2, eqV_of ha.1 h r1 r]
theorem seq_of_list {y : Vl} {S : Sto} {zs : List Vl} (h : listOf y S = some zs) : seqOf y S = some zs := by
  cases y with
  | p n =>
    simp only [listOf] at h
    simp only [seqOf]
    exact h
  | d y => cases y <;> first | exact h | cases h
theorem any_py (n m : Nat) (x : D) (hx : isData m x = true) : ∀ ds : List D, isDatas n ds = true → (toPys ds).any (fun z => PyData.eqv z (toPy x)) = ds.any fun e => eqv e x
  | [], _ => rfl
  | d :: ds, h => by
    have h : (isData n d && isDatas n ds) = true := by rw [isDatas] at h; exact h
    rw [Bool.and_eq_true] at h
    show (PyData.eqv (toPy d) (toPy x) || (toPys ds).any fun z => PyData.eqv z (toPy x)) = _
    rw [eqv_py n m d x h.1 hx, any_py n m x hx ds h.2, List.any_cons]
theorem cmp_mem0 (hK : W.K = X.K) (neg : Bool) (s : Sr W α F S H) (rx : VlR W α F S.length x v) (ry : VlR W α F S.length y u) (p : Post W E (VlX W) α F S H (match contains x y S with
  | some b => .ok (.d (.bl (if neg then !b else b))) S
  | none => .bad) Q) :
    rIn X.K neg v u H Q ∨ (∃ (c : Nat) (z : Str), v = .str ⟨#[c]⟩ ∧ u = .str z ∧ Q (.bl (if neg then !decide (c ∈ z.cps.toList) else decide (c ∈ z.cps.toList))) H) ∨
      ∃ d ds, Dp X.K H v d ∧ Dp X.K H u (.list ds) ∧ SeqAt.shaped d = true ∧ SeqAt.shaped (.list ds) = true ∧ Q (.bl (if neg then !(ds.any fun z => PyData.eqv z d) else ds.any fun z => PyData.eqv z d)) H := by
  cases x with
  | p n => exact p.elim
  | d x =>
    simp only [contains] at p
    cases ey : seqOf y S with
    | none =>
      rw [ey] at p
      cases y with
      | p n => exact p.elim
      | d y =>
        cases y with
        | str z =>
          cases x with
          | str w =>
            match w with
            | [c] => exact .inr (.inl ⟨c, ⟨z.toArray⟩, rx, ry, p.here s rfl⟩)
            | [] => exact p.elim
            | _ :: _ :: _ => exact p.elim
          | _ => exact p.elim
        | _ => exact p.elim
    | some ys =>
      rw [ey] at p
      simp only at p
      cases ep : pures ys with
      | none => rw [ep] at p; exact p.elim
      | some ds =>
        rw [ep] at p
        simp only [memFlat] at p
        by_cases hz : (isFlat x && ds.all isFlat) = true
        · rw [if_pos hz] at p
          rw [Bool.and_eq_true] at hz
          obtain ⟨a, vs, rfl, q, r⟩ := ry.seq s ey
          obtain ⟨h1, h2⟩ := memV_of hz.1 rx hz.2 (r.pures ep)
          refine .inl ⟨a, vs, rfl, by rw [← hK]; exact q, flatV_of hz.1 rx, h1, ?_⟩
          rw [h2]
          exact p.here s rfl
        · rw [if_neg hz] at p
          simp only at p
          by_cases hd : ((listOf y S).isSome && isData 64 x && isData 64 (.lst ds)) = true
          · rw [if_pos hd] at p
            simp only [Bool.and_eq_true] at hd
            obtain ⟨zs, hzs⟩ := Option.isSome_iff_exists.mp hd.1.1
            obtain ⟨a, vs, rfl, q, r⟩ := ry.list s hzs
            have hzy : zs = ys := by
              have := seq_of_list hzs
              rw [this] at ey
              exact Option.some.inj ey
            subst hzy
            have hD : isDatas 63 ds = true := by have := hd.2; rw [isData] at this; exact this
            refine .inr (.inr ⟨toPy x, toPys ds, dp_of hK s.sub 64 _ _ hd.1.2 rx, .lst (.of q) (dps_of hK s.sub 63 _ _ hD (r.pures ep)), shaped_of hd.1.2, shaped_of hd.2, ?_⟩)
            have e : (toPys ds).any (fun z => PyData.eqv z (toPy x)) = ds.any fun e => eqv e x := any_py 63 64 x hd.1.2 ds hD
            rw [e]
            exact p.here s rfl
          · rw [if_neg hd] at p
            exact p.elim

theorem op_inDct (hu : X.A.units + 100 < cLine) : OpR X (compareOp .In) (fun x y H Q => ∃ a o, y = .ref a ∧ DGet H a x o ∧ Q (.bl o.isSome) H) := by
  intro pins s σ H x y v u Q I rx ry h
  obtain ⟨a, o, rfl, g, q⟩ := h
  obtain rfl : u = Value.ref a := ry
  exact d_in (by omega) I g rx fun s3 I3 => ⟨.bl o.isSome, H, I3, rfl, q⟩
theorem op_notInDct (hu : X.A.units + 100 < cLine) : OpR X (compareOp .NotIn) (fun x y H Q => ∃ a o, y = .ref a ∧ DGet H a x o ∧ Q (.bl (!o.isSome)) H) := by
  intro pins s σ H x y v u Q I rx ry h
  obtain ⟨a, o, rfl, g, q⟩ := h
  obtain rfl : u = Value.ref a := ry
  exact d_notIn (by omega) I g rx fun s3 I3 => ⟨.bl (!o.isSome), H, I3, rfl, q⟩
/-- a dict of the module's top, what it has at a text -/
def KAt (K : PySem.W.Frag) (w : World) (a : Addr) (z : Str) (o : Option V) : Prop := ∃ es n r, KDict K w a es n ∧ PySem.W.nsIn K a z = some r ∧ RelO o r
theorem WdR.at {a : Addr} {ks : List Tx} {us : List V} (r : WdR W a ks us) (z : Tx) : KAt W.K W.w a ⟨z.toArray⟩ (wdFind ks us z) := by
  obtain ⟨_, es, n, h1, h2, h3, h4⟩ := r
  obtain ⟨q, h5, h6⟩ := h4 z
  exact ⟨es, n, q, ⟨h1, h2, h3⟩, h5, h6⟩
theorem wdFind_isSome {τ τ' : Type} {z : Tx} : ∀ {ks : List Tx} {us : List τ} {vs : List τ'}, us.length = vs.length → (wdFind ks us z).isSome = (wdFind ks vs z).isSome
  | [], us, vs, h => by simp [wdFind]
  | k :: ks, [], vs, h => by cases vs <;> simp [wdFind] at h ⊢
  | k :: ks, u :: us, [], h => by simp at h
  | k :: ks, u :: us, v :: vs, h => by
    have ih := wdFind_isSome (z := z) (ks := ks) (us := us) (vs := vs) (by simpa using h)
    unfold wdFind at ih ⊢
    simp only [List.zip_cons_cons, List.find?_cons]
    by_cases e : k = z
    · simp [e]
    · simp only [e, decide_false]
      exact ih
theorem wdFind_rel {F : Hp} {z : Tx} {x : D} : ∀ {ks : List Tx} {ds : List D} {us : List V}, Rps W F ds us → wdFind ks ds z = some x → ∃ v, wdFind ks us z = some v ∧ Rp W F x v
  | [], ds, us, r, h => by simp [wdFind] at h
  | k :: ks, [], us, r, h => by simp [wdFind] at h
  | k :: ks, d :: ds, us, r, h => by
    obtain ⟨v, q, e, r1, r2⟩ := r
    subst e
    unfold wdFind at h ⊢
    simp only [List.zip_cons_cons, List.find?_cons] at h ⊢
    by_cases e : k = z
    · simp only [e, decide_true] at h ⊢
      cases h
      exact ⟨v, rfl, r1⟩
    · simp only [e, decide_false] at h ⊢
      exact wdFind_rel r2 h
theorem op_inKAt : OpR X (compareOp .In) (fun x y H Q => ∃ z a o, x = .str z ∧ y = .ref a ∧ KAt X.K X.w a z o ∧ Q (.bl o.isSome) H) := by
  intro pins s σ H x y v u Q I rx ry h
  obtain ⟨z, a, o, rfl, rfl, ⟨es, n, r, D, e, ro⟩, q⟩ := h
  exact op_in_kd D pins s σ H _ _ v u Q I rx ry ⟨z, r, rfl, rfl, e, by rw [← ro.isSome_eq]; exact q⟩
theorem op_notInKAt : OpR X (compareOp .NotIn) (fun x y H Q => ∃ z a o, x = .str z ∧ y = .ref a ∧ KAt X.K X.w a z o ∧ Q (.bl (!o.isSome)) H) := by
  intro pins s σ H x y v u Q I rx ry h
  obtain ⟨z, a, o, rfl, rfl, ⟨es, n, r, D, e, ro⟩, q⟩ := h
  exact op_notIn_kd D pins s σ H _ _ v u Q I rx ry ⟨z, r, rfl, rfl, e, by rw [← ro.isSome_eq]; exact q⟩
theorem inDct_of (hK : W.K = X.K) (hW : W.w = X.w) (s : Sr W α F S H) (rx : VlR W α F S.length x v) (ry : VlR W α F S.length y u) {b : Bool} (h : inDct x y S = some b) : (∃ a o, u = .ref a ∧ DGet H a v o ∧ o.isSome = b) ∨ ∃ z a o, v = .str z ∧ u = .ref a ∧ KAt X.K X.w a z o ∧ o.isSome = b := by
  cases x with
  | p n => cases h
  | d k =>
    cases y with
    | p n =>
      obtain ⟨e, hl⟩ := (show u = .ref (α n) ∧ n < S.length from ry)
      simp only [inDct] at h
      cases hn : S[n]? with
      | none => rw [hn] at h; cases h
      | some c =>
        rw [hn] at h
        cases c with
        | dct t kvs =>
          simp only at h
          by_cases hk : keyOk t k = true
          · rw [if_pos hk] at h
            cases h
            obtain ⟨ws, hd, rr⟩ := s.cel n _ hn
            have ez : (kvs.map (·.1)).zip (kvs.map (·.2)) = kvs := zip_fs kvs
            rcases dget_of hd (vls_paired rr) hk rx s.sub with ⟨e1, g⟩ | ⟨z, w, e1, hr, g⟩
            · rw [ez] at e1; exact .inl ⟨α n, none, e, g, by rw [e1]; rfl⟩
            · rw [ez] at e1; exact .inl ⟨α n, some w, e, g, by rw [e1]; rfl⟩
          · rw [if_neg hk] at h; cases h
        | _ => cases h
    | d y =>
      cases y with
      | dct t ks vs =>
        have h : (if keyOk t k && ks.length == vs.length then some (kvFind (ks.zip vs) k).isSome else none) = some b := h
        by_cases hk : (keyOk t k && ks.length == vs.length) = true
        · rw [if_pos hk] at h
          rw [Bool.and_eq_true] at hk
          cases h
          obtain ⟨a, ws, e, hd, rr⟩ := ry
          rcases dget_of (hd.mono (s.sub a)) (rps_paired rr) hk.1 rx s.sub with ⟨e1, g⟩ | ⟨z, w, e1, hr, g⟩
          · exact .inl ⟨a, none, e, g, by rw [e1]; rfl⟩
          · exact .inl ⟨a, some w, e, g, by rw [e1]; rfl⟩
        · rw [if_neg hk] at h; cases h
      | wd ks vs =>
        cases k with
        | str z =>
          cases h
          obtain ⟨a, us, e, hd, rr⟩ := ry
          have hd := hd.at z
          rw [hK, hW] at hd
          exact .inr ⟨_, a, _, rx, e, hd, wdFind_isSome rr.length.symm⟩
        | _ => cases h
      | _ => cases h
theorem cmp_mem (hK : W.K = X.K) (hW : W.w = X.w) (neg : Bool) (s : Sr W α F S H) (rx : VlR W α F S.length x v) (ry : VlR W α F S.length y u) (p : Post W E (VlX W) α F S H (cMem neg x y S) Q) :
    (rIn X.K neg v u H Q ∨ (∃ (c : Nat) (z : Str), v = .str ⟨#[c]⟩ ∧ u = .str z ∧ Q (.bl (if neg then !decide (c ∈ z.cps.toList) else decide (c ∈ z.cps.toList))) H) ∨
      ∃ d ds, Dp X.K H v d ∧ Dp X.K H u (.list ds) ∧ SeqAt.shaped d = true ∧ SeqAt.shaped (.list ds) = true ∧ Q (.bl (if neg then !(ds.any fun z => PyData.eqv z d) else ds.any fun z => PyData.eqv z d)) H) ∨
    (∃ a o, u = .ref a ∧ DGet H a v o ∧ Q (.bl (if neg then !o.isSome else o.isSome)) H) ∨ ∃ z a o, v = .str z ∧ u = .ref a ∧ KAt X.K X.w a z o ∧ Q (.bl (if neg then !o.isSome else o.isSome)) H := by
  unfold cMem inAny at p
  cases hi : inDct x y S with
  | some b =>
    rw [hi] at p
    rcases inDct_of hK hW s rx ry hi with ⟨a, o, e, g, ho⟩ | ⟨z, a, o, e, e', g, ho⟩
    · exact .inr (.inl ⟨a, o, e, g, by rw [ho]; exact p.here s rfl⟩)
    · exact .inr (.inr ⟨z, a, o, e, e', g, by rw [ho]; exact p.here s rfl⟩)
  | none =>
    rw [hi] at p
    exact .inl (cmp_mem0 hK neg s rx ry p)
/-- a comparison's rule -/
theorem cmp_rule (hK : W.K = X.K) (hW : W.w = X.w) (hu1 : X.A.units + 100 < cLine) {op : CmpOp} {o : Cm} (ho : cCm op = some o) : ∃ r : R2, OpR X (compareOp op) r ∧
    ∀ {E : XK} {α F S H x y v u} {Q : VK}, Sr W α F S H → VlR W α F S.length x v → VlR W α F S.length y u → Post W E (VlX W) α F S H (cmpop o x y S) Q → r v u H Q := by
  have hu : X.A.units + 64 < cLine := by omega
  cases op <;> simp [cCm] at ho <;> subst ho
  · refine ⟨_, op_eq.or (op_eqD hu), fun s rx ry p => ?_⟩
    rcases cmp_eqv hK false s rx ry p with ⟨b, h1, h2, q⟩ | q
    · exact .inl ⟨h1, by rw [h2]; exact q⟩
    · exact .inr q
  · refine ⟨_, op_ne.or (op_neD hu), fun s rx ry p => ?_⟩
    rcases cmp_eqv hK true s rx ry p with ⟨b, h1, h2, q⟩ | q
    · exact .inl ⟨h1, by rw [h2]; exact q⟩
    · exact .inr q
  · exact ⟨_, (op_lt.or op_lt_str).or (op_ltD hu), fun s rx ry p => cmp_ord hK (h' := PySem.W.dataLt) (f' := fun i j => decide (i < j)) (g' := fun i j => decide (i.cps.toList < j.cps.toList)) (fun _ _ => rfl) (fun _ _ => rfl) (fun _ _ => rfl) s rx ry p⟩
  · exact ⟨_, (op_le.or op_le_str).or (op_leD hu), fun s rx ry p => cmp_ord hK (h' := fun a b => !PySem.W.dataLt b a) (f' := fun i j => decide (i ≤ j)) (g' := fun i j => !decide (j.cps.toList < i.cps.toList)) (fun _ _ => rfl) (fun _ _ => rfl) (fun _ _ => rfl) s rx ry p⟩
  · exact ⟨_, (op_gt.or op_gt_str).or (op_gtD hu), fun s rx ry p => cmp_ord hK (h' := fun a b => PySem.W.dataLt b a) (f' := fun i j => decide (j < i)) (g' := fun i j => decide (j.cps.toList < i.cps.toList)) (fun _ _ => rfl) (fun _ _ => rfl) (fun _ _ => rfl) s rx ry p⟩
  · exact ⟨_, (op_ge.or op_ge_str).or (op_geD hu), fun s rx ry p => cmp_ord hK (h' := fun a b => !PySem.W.dataLt a b) (f' := fun i j => decide (j ≤ i)) (g' := fun i j => !decide (i.cps.toList < j.cps.toList)) (fun _ _ => rfl) (fun _ _ => rfl) (fun _ _ => rfl) s rx ry p⟩
  · exact ⟨_, op_isN.or op_isX, fun s rx ry p => cmp_is false s rx ry p⟩
  · exact ⟨_, op_notN.or op_notX, fun s rx ry p => cmp_is true s rx ry p⟩
  · exact ⟨_, (op_in_seq.or (op_in_sign.or (op_inD (Nat.lt_of_le_of_lt (by omega) hu1)))).or ((op_inDct hu1).or op_inKAt), fun s rx ry p => cmp_mem hK hW false s rx ry p⟩
  · exact ⟨_, (op_notIn_seq.or (op_notIn_sign.or (op_notInD (Nat.lt_of_le_of_lt (by omega) hu1)))).or ((op_notInDct hu1).or op_notInKAt), fun s rx ry p => cmp_mem hK hW true s rx ry p⟩
/-- a comparison's answer is a bool -/
theorem cmpop_bl (o : Cm) (x y : Vl) (S : Sto) : cmpop o x y S = .bad ∨ ∃ b, cmpop o x y S = .ok (.d (.bl b)) S := by
  have ord : ∀ f g h, cOrd f g h x y S = .bad ∨ ∃ b, cOrd f g h x y S = .ok (.d (.bl b)) S := fun f g h => by
    unfold cOrd
    split
    · split
      · split
        · exact .inr ⟨_, rfl⟩
        · exact .inl rfl
      · exact .inl rfl
    · split
      · split
        · exact .inr ⟨_, rfl⟩
        · exact .inl rfl
      · exact .inl rfl
    · split
      · exact .inr ⟨_, rfl⟩
      · exact .inl rfl
    · split
      · exact .inr ⟨_, rfl⟩
      · exact .inl rfl
    · exact .inl rfl
  have is : ∀ n, cIs n x y S = .bad ∨ ∃ b, cIs n x y S = .ok (.d (.bl b)) S := fun n => by
    unfold cIs
    split
    · exact .inr ⟨_, rfl⟩
    · split
      · exact .inr ⟨_, rfl⟩
      · exact .inr ⟨_, rfl⟩
      · exact .inl rfl
    · exact .inl rfl
  have mem : ∀ n, cMem n x y S = .bad ∨ ∃ b, cMem n x y S = .ok (.d (.bl b)) S := fun n => by
    unfold cMem
    split
    · exact .inr ⟨_, rfl⟩
    · exact .inl rfl
  have eq : ∀ n, cEqv n x y S = .bad ∨ ∃ b, cEqv n x y S = .ok (.d (.bl b)) S := fun n => by
    unfold cEqv
    split
    · split
      · exact .inr ⟨_, rfl⟩
      · exact .inl rfl
    · exact .inl rfl
  cases o <;> unfold cmpop <;> first | exact ord _ _ _ | exact is _ | exact mem _ | exact eq _
theorem de_cmp (hK : W.K = X.K) (hW : W.w = X.w) (hu : X.A.units + 100 < cLine) {op : CmpOp} {o : Cm} (ho : cCm op = some o) (hm : behindInMarks op b = false) (ha : PE X a (tD W Es fa)) (hb : PE X b (tD W Es fb)) :
    PE X (.Compare a [op] [b] pos) (tD W Es fun ρ S => (fa ρ S).bind fun x S => (fb ρ S).bind fun y S => cmpop o x y S) := by
  obtain ⟨r, hr, k⟩ := cmp_rule hK hW hu ho
  exact peI (pe_cmpR hr ha hb hm) fun σ H Q h => two h fun s rx ry p => k s rx ry p
/-- a value that is a bool, as a test's answer -/
theorem Post.test {r : Res Vl} {Q : Bool → Hp → Prop} (p : Post W E RelE α F S H (r.bind tru) Q) (hr : r = .bad ∨ (∃ b S', r = .ok (.d (.bl b)) S') ∨ ∃ e S', r = .exc e S') : Post W E (VlX W) α F S H r fun x H' => ∃ k, x = .bl k ∧ Q k H' := by
  rcases hr with rfl | ⟨b, S', rfl⟩ | ⟨e, S', rfl⟩
  · exact p
  · exact fun w α' F' H' x s q => ⟨b, q, p b α' F' H' x s rfl⟩
  · exact p
theorem dt_cmp (hK : W.K = X.K) (hW : W.w = X.w) (hu : X.A.units + 100 < cLine) {op : CmpOp} {o : Cm} (ho : cCm op = some o) (hm : behindInMarks op b = false) (ha : PE X a (tD W Es fa)) (hb : PE X b (tD W Es fb)) :
    PT X (.Compare a [op] [b] pos) (tDT W Es fun ρ S => ((fa ρ S).bind fun x S => (fb ρ S).bind fun y S => cmpop o x y S).bind tru) := by
  obtain ⟨r, hr, k⟩ := cmp_rule hK hW hu ho
  refine ptI (pt_cmpR hr ha hb hm) fun σ H Q ⟨α, F, ρ, S, s, er, p⟩ => ?_
  refine two (g := cmpop o) (fa := fa) (fb := fb) (r := r) ⟨α, F, ρ, S, s, er, ?_⟩ fun s rx ry p => k s rx ry p
  refine p.test ?_
  cases ha : fa ρ S with
  | bad => exact .inl rfl
  | exc e S' => exact .inr (.inr ⟨e, S', rfl⟩)
  | ok x S1 =>
    cases hb : fb ρ S1 with
    | bad => exact .inl (by simp [Res.bind, hb])
    | exc e S' => exact .inr (.inr ⟨e, S', by simp [Res.bind, hb]⟩)
    | ok y S2 =>
      rcases cmpop_bl o x y S2 with h | ⟨b, h⟩
      · exact .inl (by simp [Res.bind, hb, h])
      · exact .inr (.inl ⟨b, S2, by simp [Res.bind, hb, h]⟩)
def chainF (fa fb fc : Env → Sto → Res Vl) (c c' : Cm) : Env → Sto → Res Vl := fun ρ S => (fa ρ S).bind fun x S => (fb ρ S).bind fun y S => (cmpop c x y S).bind fun r S => match r with
    | .d (.bl true) => (fc ρ S).bind fun z S => cmpop c' y z S
    | .d (.bl false) => .ok (.d (.bl false)) S
    | _ => .bad
theorem chain_of {fc : Env → Sto → Res Vl} {c c' : Cm} {r r' : R2} (k : ∀ {E : XK} {α F S H x y v u} {Q : VK}, Sr W α F S H → VlR W α F S.length x v → VlR W α F S.length y u → Post W E (VlX W) α F S H (cmpop c x y S) Q → r v u H Q)
    (k' : ∀ {E : XK} {α F S H x y v u} {Q : VK}, Sr W α F S H → VlR W α F S.length x v → VlR W α F S.length y u → Post W E (VlX W) α F S H (cmpop c' x y S) Q → r' v u H Q)
    {σ : L2.St} {H : Hp} {Q : VK} (h : tD W Es (chainF fa fb fc c c') σ H Q) : tChain r r' (tD W Es fa) (tD W Es fb) (tD W Es fc) σ H Q := by
  obtain ⟨α, F, ρ, S, s, er, p⟩ := h
  refine ⟨α, F, ρ, S, s, er, (Post.bind p).imp fun v H1 ⟨α1, F1, x, S1, x1, s1, r1, p1⟩ => ?_⟩
  refine ⟨α1, F1, ρ, S1, s1, er.ext x1, (Post.bind p1).imp fun u H2 ⟨α2, F2, y, S2, x2, s2, r2, p2⟩ => ?_⟩
  refine k s2 (r1.ext x2) r2 ((Post.bind (Rel := VlX W) p2).imp fun w H3 ⟨α3, F3, z, S3, x3, s3, r3, p3⟩ => ?_)
  cases z with
  | p n => exact p3.elim
  | d z =>
    cases z with
    | bl z =>
      refine ⟨z, r3, ?_⟩
      cases z with
      | false =>
        rw [if_neg Bool.false_ne_true]
        exact p3.here s3 rfl
      | true =>
        rw [if_pos rfl]
        refine ⟨α3, F3, ρ, S3, s3, (er.ext x1).ext (x2.trans x3), (Post.bind p3).imp fun q H4 ⟨α4, F4, z, S4, x4, s4, r4, p4⟩ => ?_⟩
        exact k' s4 (r2.ext (x3.trans x4)) r4 p4
    | _ => exact p3.elim
theorem de_chain (hK : W.K = X.K) (hW : W.w = X.w) (hu : X.A.units + 100 < cLine) {c : Expr} {fc : Env → Sto → Res Vl} {op op' : CmpOp} {o o' : Cm} (ho : cCm op = some o) (ho' : cCm op' = some o') (hm : lastMarks [op, op'] [b, c] = false)
    (ha : PE X a (tD W Es fa)) (hb : PE X b (tD W Es fb)) (hc : PE X c (tD W Es fc)) : PE X (.Compare a [op, op'] [b, c] pos) (tD W Es (chainF fa fb fc o o')) := by
  obtain ⟨r, hr, k⟩ := cmp_rule hK hW hu ho
  obtain ⟨r', hr', k'⟩ := cmp_rule hK hW hu ho'
  exact peI (pe_chain hr hr' ha hb hc hm) fun σ H Q h => chain_of k k' h
theorem dt_chain (hK : W.K = X.K) (hW : W.w = X.w) (hu : X.A.units + 100 < cLine) {c : Expr} {fc : Env → Sto → Res Vl} {op op' : CmpOp} {o o' : Cm} (ho : cCm op = some o) (ho' : cCm op' = some o') (hm : lastMarks [op, op'] [b, c] = false)
    (ha : PE X a (tD W Es fa)) (hb : PE X b (tD W Es fb)) (hc : PE X c (tD W Es fc)) : PT X (.Compare a [op, op'] [b, c] pos) (tDT W Es fun ρ S => (chainF fa fb fc o o' ρ S).bind tru) := by
  obtain ⟨r, hr, k⟩ := cmp_rule hK hW hu ho
  obtain ⟨r', hr', k'⟩ := cmp_rule hK hW hu ho'
  refine ptI (pt_chain hr hr' ha hb hc hm) fun σ H Q ⟨α, F, ρ, S, s, er, p⟩ => ?_
  refine chain_of k k' ⟨α, F, ρ, S, s, er, p.test ?_⟩
  unfold chainF
  cases ha : fa ρ S with
  | bad => exact .inl rfl
  | exc e S' => exact .inr (.inr ⟨e, S', rfl⟩)
  | ok x S1 =>
    simp only [Res.bind]
    cases hb : fb ρ S1 with
    | bad => exact .inl rfl
    | exc e S' => exact .inr (.inr ⟨e, S', rfl⟩)
    | ok y S2 =>
      simp only
      rcases cmpop_bl o x y S2 with h | ⟨b, h⟩
      · exact .inl (by rw [h])
      · rw [h]
        simp only
        cases b with
        | false => exact .inr (.inl ⟨false, S2, rfl⟩)
        | true =>
          simp only
          cases hc : fc ρ S2 with
          | bad => exact .inl rfl
          | exc e S' => exact .inr (.inr ⟨e, S', rfl⟩)
          | ok z S3 =>
            simp only
            rcases cmpop_bl o' y z S3 with h | ⟨b, h⟩
            · exact .inl h
            · exact .inr (.inl ⟨b, S3, h⟩)
end
end Z
end

section
set_option maxHeartbeats 1000000
/-! Z9: truth, bool operators, displays, subscripts, slices. -/
namespace Z
open PySem L2

section
variable {X : Cx} {W : Wd} {E : XK} {Es : SX} {a b c e : Expr} {es : List Expr} {pos : Pos} {fa fb fc : Env → Sto → Res Vl}
variable {α : Nat → Addr} {F : Hp} {S : Sto} {H : Hp} {Q : VK} {x y : Vl} {v u : V}

theorem isEmpty_len {τ τ' : Type} {xs : List τ} {ys : List τ'} (h : xs.length = ys.length) : xs.isEmpty = ys.isEmpty := by
  cases xs <;> cases ys <;> simp at h ⊢
theorem tru_of (hK : W.K = X.K) {Qb : Bool → Hp → Prop} (s : Sr W α F S H) (r : VlR W α F S.length x v) (p : Post W E RelE α F S H (tru x S) Qb) : ∃ k, TruV X.K v H k ∧ Qb k H := by
  unfold tru at p
  cases e : truthy x S with
  | none => rw [e] at p; exact p.elim
  | some k =>
    rw [e] at p
    refine ⟨k, ?_, p.here s rfl⟩
    cases x with
    | p n =>
      obtain ⟨ev, hl⟩ := (show v = .ref (α n) ∧ n < S.length from r)
      simp only [truthy] at e
      cases hn : S[n]? with
      | none => rw [hn] at e; cases e
      | some c =>
        rw [hn] at e
        subst ev
        cases c with
        | lst xs =>
          obtain ⟨vs, hv, rr⟩ := s.cel n _ hn
          simp only [Option.some.injEq] at e
          exact .inl ⟨vs, .of hv, by rw [← isEmpty_len rr.length, e]⟩
        | dct t kvs =>
          obtain ⟨ws, hd, rr⟩ := s.cel n _ hn
          simp only at e
          by_cases ht : (!t) = true
          · rw [if_pos ht] at e
            cases e
            rcases hd with ⟨_, kk, h1, h2, h3⟩ | ⟨e1, _⟩
            · refine .inr (.inr ⟨_, h3, ?_⟩)
              rw [isEmpty_len (dct_len h1 h2)]
            · rw [e1] at ht; cases ht
          · rw [if_neg ht] at e; cases e
        | _ => cases e
    | d d =>
      have r : Rp W F d v := r
      cases d with
      | non => cases e; cases (show v = V.non from r); rfl
      | bl b => cases e; cases (show v = V.bl _ from r); rfl
      | int i => cases e; cases (show v = V.int _ from r); rfl
      | str z =>
        cases (show v = V.str ⟨z.toArray⟩ from r)
        have e : (if decide (z.length ≤ most) then some ((z.length : Int) != 0) else none) = some k := e
        by_cases hz : z.length ≤ most
        · rw [if_pos (by simpa using hz)] at e
          refine ⟨by rw [str_len, ← most_eq]; exact hz, ?_⟩
          rw [str_len]
          exact (Option.some.inj e).symm
        · rw [if_neg (by simpa using hz)] at e; cases e
      | lst ds =>
        cases e
        obtain ⟨a, vs, rfl, q, rr⟩ := r
        exact .inl ⟨vs, .of (s.sub _ _ q), by rw [isEmpty_len rr.length]⟩
      | tup ds =>
        cases e
        obtain ⟨a, vs, rfl, q, rr⟩ := r
        exact .inr (.inl ⟨vs, by rw [← hK]; exact s.sub.sqT (.of q), by rw [isEmpty_len rr.length]⟩)
      | dct t ks ds =>
        have e : (if !t && ks.length == ds.length then some (!ks.isEmpty) else none) = some k := e
        by_cases ht : (!t && ks.length == ds.length) = true
        · rw [if_pos ht] at e
          cases e
          rw [Bool.and_eq_true] at ht
          obtain ⟨a, ws, rfl, hd, rr⟩ := r
          rcases hd with ⟨_, kk, h1, h2, h3⟩ | ⟨e1, _⟩
          · refine .inr (.inr ⟨_, s.sub _ _ h3, ?_⟩)
            have := congrArg List.length h1
            rw [isEmpty_len (show ks.length = (kk.zip ws).length by simp at this; simp [this, h2])]
          · rw [e1] at ht; exact absurd ht.1 (by decide)
        · rw [if_neg ht] at e; cases e
      | _ => cases e
/-- a test by a value's truth -/
theorem dt_truth (hK : W.K = X.K) (ha : PE X a (tD W Es fa)) (he : ∀ whole, isTrue a X.env whole = (do let v ← whole; standAt a.pos; holding [v] (PySem.truthy v))) : PT X a (tDT W Es fun ρ S => (fa ρ S).bind tru) :=
  ptI (pt_truth ha he) fun σ H Q ⟨α, F, ρ, S, s, er, p⟩ => ⟨α, F, ρ, S, s, er, (Post.bind p).imp fun v H1 ⟨α1, F1, x, S1, x1, s1, r1, p1⟩ => tru_of hK s1 r1 p1⟩

/-! ### and, or, not -/
def andF (fa fb : Env → Sto → Res Vl) : Env → Sto → Res Vl := fun ρ S => (fa ρ S).bind fun x S => (tru x S).bind fun k S => if k then fb ρ S else .ok x S
def orF (fa fb : Env → Sto → Res Vl) : Env → Sto → Res Vl := fun ρ S => (fa ρ S).bind fun x S => (tru x S).bind fun k S => if k then .ok x S else fb ρ S
def notF (fa : Env → Sto → Res Vl) : Env → Sto → Res Vl := fun ρ S => (fa ρ S).bind fun x S => (tru x S).bind fun k S => .ok (.d (.bl (!k))) S
def iteF' (fc fa fb : Env → Sto → Res Vl) : Env → Sto → Res Vl := fun ρ S => (fc ρ S).bind fun x S => (tru x S).bind fun k S => if k then fa ρ S else fb ρ S
theorem tru_same (x : Vl) (S : Sto) : tru x S = .bad ∨ ∃ k, tru x S = .ok k S := by
  unfold tru
  split
  · exact .inr ⟨_, rfl⟩
  · exact .inl rfl
theorem and_test (fa fb : Env → Sto → Res Vl) (ρ : Env) (S : Sto) : (andF fa fb ρ S).bind tru = ((fa ρ S).bind tru).bind fun k S => if k then (fb ρ S).bind tru else .ok false S := by
  unfold andF
  cases fa ρ S with
  | bad => rfl
  | exc e S' => rfl
  | ok x S1 =>
    simp only [Res.bind]
    rcases tru_same x S1 with h | ⟨k, h⟩
    · simp only [h]
    · simp only [h]
      cases k
      · simp [h]
      · simp
theorem or_test (fa fb : Env → Sto → Res Vl) (ρ : Env) (S : Sto) : (orF fa fb ρ S).bind tru = ((fa ρ S).bind tru).bind fun k S => if k then .ok true S else (fb ρ S).bind tru := by
  unfold orF
  cases fa ρ S with
  | bad => rfl
  | exc e S' => rfl
  | ok x S1 =>
    simp only [Res.bind]
    rcases tru_same x S1 with h | ⟨k, h⟩
    · simp only [h]
    · simp only [h]
      cases k
      · simp
      · simp [h]
theorem not_test (fa : Env → Sto → Res Vl) (ρ : Env) (S : Sto) : (notF fa ρ S).bind tru = ((fa ρ S).bind tru).bind fun k S => .ok (!k) S := by
  unfold notF
  cases fa ρ S with
  | bad => rfl
  | exc e S' => rfl
  | ok x S1 =>
    simp only [Res.bind]
    rcases tru_same x S1 with h | ⟨k, h⟩
    · simp only [h]
    · simp only [h]
      rfl
theorem ite_test (fc fa fb : Env → Sto → Res Vl) (ρ : Env) (S : Sto) : (iteF' fc fa fb ρ S).bind tru = ((fc ρ S).bind tru).bind fun k S => if k then (fa ρ S).bind tru else (fb ρ S).bind tru := by
  unfold iteF'
  cases fc ρ S with
  | bad => rfl
  | exc e S' => rfl
  | ok x S1 =>
    simp only [Res.bind]
    rcases tru_same x S1 with h | ⟨k, h⟩
    · simp only [h]
    · simp only [h]
      cases k <;> simp
/-- a test, then two ways -/
theorem test_then {t u : TT} {ft fu fw : Env → Sto → Res Bool} {σ : L2.St} {H : Hp} {Q : Bool → Hp → Prop} (h : tDT W Es (fun ρ S => (ft ρ S).bind fun k S => if k then fu ρ S else fw ρ S) σ H Q) :
    tDT W Es ft σ H fun k H1 => if k = true then tDT W Es fu σ H1 Q else tDT W Es fw σ H1 Q := by
  obtain ⟨α, F, ρ, S, s, er, p⟩ := h
  refine ⟨α, F, ρ, S, s, er, (Post.bind p).imp fun k H1 ⟨α1, F1, k', S1, x1, s1, r1, p1⟩ => ?_⟩
  cases (show k' = k from r1)
  cases k with
  | true => exact ⟨α1, F1, ρ, S1, s1, er.ext x1, p1⟩
  | false => exact ⟨α1, F1, ρ, S1, s1, er.ext x1, p1⟩
theorem ok_dt {k : Bool} {σ : L2.St} {H : Hp} {Q : Bool → Hp → Prop} (h : tDT W Es (fun _ S => .ok k S) σ H Q) : Q k H := by
  obtain ⟨α, F, ρ, S, s, er, p⟩ := h
  exact p.here s rfl
theorem tDT_congr {f g : Env → Sto → Res Bool} (h : ∀ ρ S, f ρ S = g ρ S) {σ : L2.St} {H : Hp} {Q : Bool → Hp → Prop} (q : tDT W Es f σ H Q) : tDT W Es g σ H Q := by
  have : f = g := funext fun ρ => funext fun S => h ρ S
  rw [← this]; exact q
theorem dw_and (ha : PT X a (tDT W Es fun ρ S => (fa ρ S).bind tru)) (hb : PW X (.BoolOp .And (b :: es) pos) (tDT W Es fun ρ S => (fb ρ S).bind tru)) : PW X (.BoolOp .And (a :: b :: es) pos) (tDT W Es fun ρ S => (andF fa fb ρ S).bind tru) := by
  refine ⟨fun whole pins s σ H Q I h => (pw_and ha hb).run whole pins s σ H Q I ?_⟩
  have h := test_then (t := tYes) (u := tYes) (ft := fun ρ S => (fa ρ S).bind tru) (fu := fun ρ S => (fb ρ S).bind tru) (fw := fun _ S => .ok false S) (tDT_congr (and_test fa fb) h)
  obtain ⟨α, F, ρ, S, s, er, p⟩ := h
  refine ⟨α, F, ρ, S, s, er, p.imp fun k H1 q => ?_⟩
  cases k with
  | true => exact q
  | false => exact ok_dt q
theorem dw_or (ha : PT X a (tDT W Es fun ρ S => (fa ρ S).bind tru)) (hb : PW X (.BoolOp .Or (b :: es) pos) (tDT W Es fun ρ S => (fb ρ S).bind tru)) : PW X (.BoolOp .Or (a :: b :: es) pos) (tDT W Es fun ρ S => (orF fa fb ρ S).bind tru) := by
  refine ⟨fun whole pins s σ H Q I h => (pw_or ha hb).run whole pins s σ H Q I ?_⟩
  have h := test_then (t := tYes) (u := tYes) (ft := fun ρ S => (fa ρ S).bind tru) (fu := fun _ S => .ok true S) (fw := fun ρ S => (fb ρ S).bind tru) (tDT_congr (or_test fa fb) h)
  obtain ⟨α, F, ρ, S, s, er, p⟩ := h
  refine ⟨α, F, ρ, S, s, er, p.imp fun k H1 q => ?_⟩
  cases k with
  | true => exact ok_dt q
  | false => exact q
theorem dt_not (ha : PT X a (tDT W Es fun ρ S => (fa ρ S).bind tru)) : PT X (.UnaryOp .Not a pos) (tDT W Es fun ρ S => (notF fa ρ S).bind tru) := by
  refine ptI (pt_not ha) fun σ H Q h => ?_
  obtain ⟨α, F, ρ, S, s, er, p⟩ := tDT_congr (not_test fa) h
  refine ⟨α, F, ρ, S, s, er, (Post.bind p).imp fun k H1 ⟨α1, F1, k', S1, x1, s1, r1, p1⟩ => ?_⟩
  cases (show k' = k from r1)
  exact p1.here s1 rfl
theorem pt_ifExp {tc ta tb : TT} (hc : PT X c tc) (ha : PT X a ta) (hb : PT X b tb) : PT X (.IfExp c a b pos) (fun σ H Q => tc σ H fun k H1 => if k = true then ta σ H1 Q else tb σ H1 Q) := by
  refine ⟨fun pins s σ H Q I h => ?_⟩
  show wpAny _ _ (isTrue c X.env (eval c X.env) >>= fun k => if k = true then isTrue a X.env (eval a X.env) else isTrue b X.env (eval b X.env)) _ _ _
  refine wpAny_bind (thn (hc.run pins s σ H _ I h) fun d s1 ⟨H1, I1, q1⟩ => ?_)
  cases d with
  | true => exact ha.run pins s1 σ H1 Q I1 q1
  | false => exact hb.run pins s1 σ H1 Q I1 q1
theorem dt_ite (hc : PT X c (tDT W Es fun ρ S => (fc ρ S).bind tru)) (ha : PT X a (tDT W Es fun ρ S => (fa ρ S).bind tru)) (hb : PT X b (tDT W Es fun ρ S => (fb ρ S).bind tru)) :
    PT X (.IfExp c a b pos) (tDT W Es fun ρ S => (iteF' fc fa fb ρ S).bind tru) := by
  refine ptI (pt_ifExp hc ha hb) fun σ H Q h => ?_
  exact test_then (t := tYes) (u := tYes) (ft := fun ρ S => (fc ρ S).bind tru) (fu := fun ρ S => (fa ρ S).bind tru) (fw := fun ρ S => (fb ρ S).bind tru) (tDT_congr (ite_test fc fa fb) h)
/-- a value's truth, then two ways with the value -/
theorem tru_then (hK : W.K = X.K) {τ β : Type} {Rel : (Nat → Addr) → Hp → Sto → Hp → τ → β → Prop} {Qx : β → Hp → Prop} {g : Bool → Sto → Res τ} (s : Sr W α F S H) (r : VlR W α F S.length x v) (p : Post W E Rel α F S H ((tru x S).bind g) Qx) :
    ∃ k, TruV X.K v H k ∧ Post W E Rel α F S H (g k S) Qx := by
  rcases tru_same x S with h | ⟨k, h⟩
  · rw [h] at p; exact p.elim
  · rw [h] at p
    have : Post W E RelE α F S H (tru x S) (fun k' _ => k' = k) := by
      rw [h]
      exact fun w α' F' H' _ _ q => q.symm
    obtain ⟨k', t, e⟩ := tru_of hK s r this
    subst e
    exact ⟨k', t, p⟩
theorem de_and (hK : W.K = X.K) (ha : PE X a (tD W Es fa)) (hb : PE X (.BoolOp .And (b :: es) pos) (tD W Es fb)) : PE X (.BoolOp .And (a :: b :: es) pos) (tD W Es (andF fa fb)) := by
  refine peI (pe_andT ha hb) fun σ H Q ⟨α, F, ρ, S, s, er, p⟩ => ⟨α, F, ρ, S, s, er, (Post.bind p).imp fun v H1 ⟨α1, F1, x, S1, x1, s1, r1, p1⟩ => ?_⟩
  obtain ⟨k, t, p2⟩ := tru_then hK s1 r1 p1
  refine ⟨k, t, ?_⟩
  cases k with
  | true => exact ⟨α1, F1, ρ, S1, s1, er.ext x1, p2⟩
  | false => exact p2.here s1 r1
theorem de_or (hK : W.K = X.K) (ha : PE X a (tD W Es fa)) (hb : PE X (.BoolOp .Or (b :: es) pos) (tD W Es fb)) : PE X (.BoolOp .Or (a :: b :: es) pos) (tD W Es (orF fa fb)) := by
  refine peI (pe_orT ha hb) fun σ H Q ⟨α, F, ρ, S, s, er, p⟩ => ⟨α, F, ρ, S, s, er, (Post.bind p).imp fun v H1 ⟨α1, F1, x, S1, x1, s1, r1, p1⟩ => ?_⟩
  obtain ⟨k, t, p2⟩ := tru_then hK s1 r1 p1
  refine ⟨k, t, ?_⟩
  cases k with
  | false => exact ⟨α1, F1, ρ, S1, s1, er.ext x1, p2⟩
  | true => exact p2.here s1 r1
theorem de_not (hK : W.K = X.K) (ha : PE X a (tD W Es fa)) : PE X (.UnaryOp .Not a pos) (tD W Es (notF fa)) := by
  refine peI (pe_notT ha) fun σ H Q ⟨α, F, ρ, S, s, er, p⟩ => ⟨α, F, ρ, S, s, er, (Post.bind p).imp fun v H1 ⟨α1, F1, x, S1, x1, s1, r1, p1⟩ => ?_⟩
  obtain ⟨k, t, p2⟩ := tru_then hK s1 r1 p1
  exact ⟨k, t, p2.here s1 rfl⟩
theorem de_ite (hc : PT X c (tDT W Es fun ρ S => (fc ρ S).bind tru)) (ha : PE X a (tD W Es fa)) (hb : PE X b (tD W Es fb)) : PE X (.IfExp c a b pos) (tD W Es (iteF' fc fa fb)) := by
  refine peI (pe_ifExp hc ha hb) fun σ H Q ⟨α, F, ρ, S, s, er, p⟩ => ?_
  have e : iteF' fc fa fb ρ S = ((fc ρ S).bind tru).bind fun k S => if k then fa ρ S else fb ρ S := by
    unfold iteF'
    cases fc ρ S <;> rfl
  rw [e] at p
  refine ⟨α, F, ρ, S, s, er, (Post.bind p).imp fun k H1 ⟨α1, F1, k', S1, x1, s1, r1, p1⟩ => ?_⟩
  cases (show k' = k from r1)
  cases k with
  | true => exact ⟨α1, F1, ρ, S1, s1, er.ext x1, p1⟩
  | false => exact ⟨α1, F1, ρ, S1, s1, er.ext x1, p1⟩

/-! ### lists of expressions -/
theorem star_cons (h : notStar e = true) {env : PySem.Env} : starEach (e :: es) env = (false, eval e env) :: starEach es env := by
  cases e <;> first | rfl | (simp [notStar] at h)
theorem star_none : ∀ {es : List Expr} {env : PySem.Env} {pos : Pos}, es.all notStar = true → (backTo pos (starEach es env)).any (·.1) = false
  | [], _, _, _ => rfl
  | e :: es, env, pos, h => by
    rw [List.all_cons, Bool.and_eq_true] at h
    rw [star_cons h.1]
    show (false || (backTo pos (starEach es env)).any (·.1)) = false
    rw [star_none h.2]; rfl
def nilF : Env → Sto → Res (List Vl) := fun _ S => .ok [] S
def consF (fa : Env → Sto → Res Vl) (fs : Env → Sto → Res (List Vl)) : Env → Sto → Res (List Vl) := fun ρ S => (fa ρ S).bind fun v S => (fs ρ S).bind fun vs S => .ok (v :: vs) S
theorem da_nil : PA X [] (tDA W Es nilF) := paI pa_nil fun σ H Q ⟨α, F, ρ, S, s, er, p⟩ => p.here s .nil
theorem da_cons {fs : Env → Sto → Res (List Vl)} (hn : notStar e = true) (he : PE X e (tD W Es fa)) (hs : PA X es (tDA W Es fs)) : PA X (e :: es) (tDA W Es (consF fa fs)) :=
  paI (pa_cons he hs (star_cons hn)) fun σ H Q ⟨α, F, ρ, S, s, er, p⟩ => ⟨α, F, ρ, S, s, er, (Post.bind p).imp fun v H1 ⟨α1, F1, x, S1, x1, s1, r1, p1⟩ =>
    ⟨α1, F1, ρ, S1, s1, er.ext x1, (Post.bind (Rel := VlXs W) p1).imp fun vs H2 ⟨α2, F2, xs, S2, x2, s2, r2, p2⟩ => p2.here s2 (.cons (r1.ext x2) r2)⟩⟩

/-! ### displays -/
def tupF (fs : Env → Sto → Res (List Vl)) : Env → Sto → Res Vl := fun ρ S => (fs ρ S).bind fun vs S => match pures vs with
    | some ds => if decide (ds.length ≤ most) then .ok (.d (.tup ds)) S else .bad
    | none => .bad
theorem de_tup {fs : Env → Sto → Res (List Vl)} {k : Nat} (hs : PA X es (tDA W Es fs)) : PE X (.Tuple es k pos) (tD W Es (tupF fs)) :=
  peI (pe_tup hs) fun σ H Q ⟨α, F, ρ, S, s, er, p⟩ => ⟨α, F, ρ, S, s, er, (Post.bind (Rel := VlXs W) p).imp fun vs H1 ⟨α1, F1, xs, S1, x1, s1, r1, p1⟩ => by
    dsimp only at p1
    cases hp : pures xs with
    | none => rw [hp] at p1; exact p1.elim
    | some ds =>
      rw [hp] at p1
      simp only at p1
      have rr := r1.pures hp
      by_cases hz : ds.length ≤ most
      · rw [if_pos (by simpa using hz)] at p1
        exact ⟨by rw [← rr.length, ← most_eq]; exact hz, fun l hl => fin_tup p1 s1 rr hl⟩
      · rw [if_neg (by simpa using hz)] at p1
        exact p1.elim⟩
theorem de_lst {fs : Env → Sto → Res (List Vl)} {cell : Bool} (hs : PA X es (tDA W Es fs)) : PE X (.List es pos) (tD W Es fun ρ S => (fs ρ S).bind fun vs S => newList cell vs S) :=
  peI (pe_lst hs) fun σ H Q ⟨α, F, ρ, S, s, er, p⟩ => ⟨α, F, ρ, S, s, er, (Post.bind (Rel := VlXs W) p).imp fun vs H1 ⟨α1, F1, xs, S1, x1, s1, r1, p1⟩ => fin_new p1 s1 r1⟩

/-! ### subscripts -/
theorem Rps.atI {ds : List D} {vs : List V} (r : Rps W F ds vs) {i : Int} {d : D} (h : L2.atI ds i = some d) : ∃ w, L2.atI vs i = some w ∧ Rp W F d w := by
  unfold L2.atI at h ⊢
  rw [← r.length]
  cases e : ixN ds.length i with
  | none => rw [e] at h; cases h
  | some j => rw [e] at h; exact r.get h
theorem VlRs.atI {ds : List Vl} {vs : List V} {N : Nat} (r : VlRs W α F N ds vs) {i : Int} {d : Vl} (h : L2.atI ds i = some d) : ∃ w, L2.atI vs i = some w ∧ VlR W α F N d w := by
  unfold L2.atI at h ⊢
  rw [← r.length]
  cases e : ixN ds.length i with
  | none => rw [e] at h; cases h
  | some j => rw [e] at h; exact r.get h
theorem ix_dct (hu : X.A.units + 100 < cLine) : IxR X (fun x y H Q => ∃ a v, x = .ref a ∧ DGet H a y (some v) ∧ Q v H) := by
  intro value slice pins s σ H x y v u Q I rx ry h hs
  obtain ⟨a, w, rfl, g, q⟩ := h
  obtain rfl : v = Value.ref a := rx
  exact PyProof.Rows.tail_any (dict_typeIs I g) PySem.F.slot_dict_getitem.lookup (d_getItem (by omega) I g ry fun w' s3 I3 rw' => ⟨w, H, I3, rw', q⟩) hs
theorem ix_kat : IxR X (fun x y H Q => ∃ a z w, x = .ref a ∧ y = .str z ∧ KAt X.K X.w a z (some w) ∧ Q w H) := by
  intro value slice pins s σ H x y v u Q I rx ry h hs
  obtain ⟨a, z, w, rfl, rfl, ⟨es, n, r, D, e, ro⟩, q⟩ := h
  cases r with
  | none => exact absurd ro (by simp [RelO])
  | some u0 => exact ix_kdict value slice pins s σ H _ _ v u Q I rx ry ⟨a, z, w, rfl, rfl, ⟨es, n, u0, D.at_, D.lit, e, ro⟩, q⟩ hs
theorem ix_of (hK : W.K = X.K) (hW : W.w = X.w) (s : Sr W α F S H) (rx : VlR W α F S.length x v) (ry : VlR W α F S.length y u) (p : Post W E (VlX W) α F S H (index x y S) Q) : (rIx X.K v u H Q ∨ ∃ a w, v = .ref a ∧ DGet H a u (some w) ∧ Q w H) ∨ ∃ a z w, v = .ref a ∧ u = .str z ∧ KAt X.K X.w a z (some w) ∧ Q w H := by
  cases x with
  | p n =>
    obtain ⟨ev, hl⟩ := (show v = .ref (α n) ∧ n < S.length from rx)
    cases y with
    | p m => exact p.elim
    | d y =>
      simp only [index] at p
      cases hn : S[n]? with
      | none => rw [hn] at p; exact p.elim
      | some c =>
        rw [hn] at p
        obtain hc := s.cel n _ hn
        cases c with
        | lst xs =>
          obtain ⟨vs, hv, rr⟩ := hc
          cases y with
          | int i =>
            simp only at p
            cases e : L2.atI xs i with
            | none => rw [e] at p; exact p.elim
            | some z =>
              rw [e] at p
              obtain ⟨w, h1, h2⟩ := rr.atI e
              exact .inl (.inl (.inl ⟨α n, vs, i, w, ev, ry, .of hv, h1, p.here s h2⟩))
          | _ => exact p.elim
        | dct t kvs =>
          obtain ⟨ws, hd, rr⟩ := hc
          simp only at p
          by_cases hk : keyOk t y = true
          · rw [if_pos hk] at p
            have ez : (kvs.map (·.1)).zip (kvs.map (·.2)) = kvs := zip_fs kvs
            rcases dget_of hd (vls_paired rr) hk ry s.sub with ⟨e1, _⟩ | ⟨z, w, e1, hr, g⟩
            · rw [ez] at e1; rw [e1] at p; exact p.elim
            · rw [ez] at e1; rw [e1] at p
              exact .inl (.inr ⟨α n, w, ev, g, p.here s hr⟩)
          · rw [if_neg hk] at p
            exact p.elim
        | _ => exact p.elim
  | d x =>
    have rx : Rp W F x v := rx
    cases y with
    | p m => cases x <;> exact p.elim
    | d y =>
      cases x with
      | lst ds =>
        cases y with
        | int i =>
          obtain ⟨a, vs, rfl, q, rr⟩ := rx
          have p : Post W E (VlX W) α F S H (match L2.atI ds i with | some y => .ok (.d y) S | none => .bad) Q := p
          cases e : L2.atI ds i with
          | none => rw [e] at p; exact p.elim
          | some z =>
            rw [e] at p
            obtain ⟨w, h1, h2⟩ := rr.atI e
            exact .inl (.inl (.inl ⟨a, vs, i, w, rfl, ry, .of (s.sub _ _ q), h1, p.here s h2⟩))
        | _ => exact p.elim
      | tup ds =>
        cases y with
        | int i =>
          obtain ⟨a, vs, rfl, q, rr⟩ := rx
          have p : Post W E (VlX W) α F S H (match L2.atI ds i with | some y => .ok (.d y) S | none => .bad) Q := p
          cases e : L2.atI ds i with
          | none => rw [e] at p; exact p.elim
          | some z =>
            rw [e] at p
            obtain ⟨w, h1, h2⟩ := rr.atI e
            exact .inl (.inl (.inr (.inl ⟨a, vs, i, w, rfl, ry, by rw [← hK]; exact s.sub.sqT (.of q), h1, p.here s h2⟩)))
        | _ => exact p.elim
      | str z =>
        cases y with
        | int i =>
          have p : Post W E (VlX W) α F S H (if decide (z.length ≤ most) then (match L2.atI z i with | some c => .ok (.d (.str [c])) S | none => .bad) else .bad) Q := p
          by_cases hz : z.length ≤ most
          · rw [if_pos (by simpa using hz)] at p
            cases e : L2.atI z i with
            | none => rw [e] at p; exact p.elim
            | some c =>
              rw [e] at p
              exact .inl (.inl (.inr (.inr ⟨⟨z.toArray⟩, i, c, rx, ry, by rw [str_len, ← most_eq]; exact hz, e, p.here s rfl⟩)))
          · rw [if_neg (by simpa using hz)] at p; exact p.elim
        | _ => exact p.elim
      | dct t ks ds =>
        obtain ⟨a, ws, rfl, hd, rr⟩ := rx
        have p : Post W E (VlX W) α F S H (if keyOk t y then (match kvFind (ks.zip ds) y with | some z => .ok (.d z) S | none => .bad) else .bad) Q := p
        by_cases hk : keyOk t y = true
        · rw [if_pos hk] at p
          rcases dget_of (hd.mono (s.sub a)) (rps_paired rr) hk ry s.sub with ⟨e1, _⟩ | ⟨z, w, e1, hr, g⟩
          · rw [e1] at p; exact p.elim
          · rw [e1] at p
            exact .inl (.inr ⟨a, w, rfl, g, p.here s hr⟩)
        · rw [if_neg hk] at p
          exact p.elim
      | wd ks ds =>
        cases y with
        | str z =>
          obtain ⟨a, us, rfl, hd, rr⟩ := rx
          have p : Post W E (VlX W) α F S H (match wdFind ks ds z with | some y => .ok (.d y) S | none => .bad) Q := p
          cases e : wdFind ks ds z with
          | none => rw [e] at p; exact p.elim
          | some d =>
            rw [e] at p
            obtain ⟨w, h1, h2⟩ := wdFind_rel rr e
            have hd := hd.at z
            rw [hK, hW, h1] at hd
            exact .inr ⟨a, _, w, rfl, ry, hd, p.here s h2⟩
        | _ => exact p.elim
      | _ => exact p.elim
theorem de_ix (hK : W.K = X.K) (hW : W.w = X.w) (hu : X.A.units + 100 < cLine) (hp : PlainIx b) (ha : PE X a (tD W Es fa)) (hb : PE X b (tD W Es fb)) : PE X (.Subscript a b pos) (tD W Es fun ρ S => (fa ρ S).bind fun x S => (fb ρ S).bind fun y S => index x y S) :=
  peI (pe_ix ((ix_seq.or (ix_dct hu)).or ix_kat) ha hb hp) fun σ H Q h => two h fun s rx ry p => ix_of hK hW s rx ry p

/-! ### slices -/
theorem do_none : PO X none (tDO W Es fun _ S => .ok none S) := poI po_none fun σ H Q ⟨α, F, ρ, S, s, er, p⟩ => p.here s rfl
def someF (fa : Env → Sto → Res Vl) : Env → Sto → Res (Option Int) := fun ρ S => (fa ρ S).bind fun v S => match v with
    | .d (.int i) => .ok (some i) S
    | _ => .bad
theorem do_some (ha : PE X a (tD W Es fa)) : PO X (some a) (tDO W Es (someF fa)) := poI (po_some ha) fun σ H Q ⟨α, F, ρ, S, s, er, p⟩ => ⟨α, F, ρ, S, s, er, (Post.bind p).imp fun v H1 ⟨α1, F1, x, S1, x1, s1, r1, p1⟩ => by
  cases x with
  | p n => exact p1.elim
  | d x =>
    cases x with
    | int i => exact ⟨i, r1, p1.here s1 rfl⟩
    | _ => exact p1.elim⟩
theorem Rps.cut {ds : List D} {vs : List V} (r : Rps W F ds vs) (lo hi : Option Int) : Rps W F (Z.cut ds lo hi) (cutV vs lo hi) := by
  unfold Z.cut cutV
  rw [r.length]
  exact (r.drop _).take _
theorem cut_str (z : Tx) (lo hi : Option Int) : cutS ⟨z.toArray⟩ lo hi = ⟨(Z.cut z lo hi).toArray⟩ := by
  unfold cutS Z.cut
  rw [str_len]
theorem sl_of (hK : W.K = X.K) {lo hi : Option Int} (s : Sr W α F S H) (rx : VlR W α F S.length x v) (p : Post W E (VlX W) α F S H (slice x lo hi S) Q) : rSlS v lo hi H Q ∨ (rSlA X.K v lo hi H Q ∨ rSlL X.K v lo hi H Q) := by
  have lst : Post W E (VlX W) α F S H (sliceL x lo hi S) Q → rSlL X.K v lo hi H Q := fun p => by
    unfold sliceL at p
    cases ex : listOf x S with
    | none => rw [ex] at p; exact p.elim
    | some xs =>
      rw [ex] at p
      simp only at p
      cases px : pures xs with
      | none => rw [px] at p; exact p.elim
      | some ds =>
        rw [px] at p
        obtain ⟨a, vs, rfl, q1, r1⟩ := rx.list s ex
        have r1 := r1.pures px
        exact ⟨a, vs, rfl, .of q1, fun l hl => fin_lst p s (r1.cut lo hi) hl⟩
  cases x with
  | p n => exact .inr (.inr (lst p))
  | d x =>
    have rx' : Rp W F x v := rx
    cases x with
    | str z =>
      have p : Post W E (VlX W) α F S H (if decide (z.length ≤ most) then .ok (.d (.str (Z.cut z lo hi))) S else .bad) Q := p
      by_cases hz : z.length ≤ most
      · rw [if_pos (by simpa using hz)] at p
        refine .inl ⟨⟨z.toArray⟩, rx', by rw [str_len, ← most_eq]; exact hz, ?_⟩
        rw [cut_str]
        exact p.here s rfl
      · rw [if_neg (by simpa using hz)] at p; exact p.elim
    | tup ds =>
      have p : Post W E (VlX W) α F S H (.ok (.d (.tup (Z.cut ds lo hi))) S) Q := p
      obtain ⟨a, vs, rfl, q, rr⟩ := rx'
      refine .inr (.inl ⟨a, vs, rfl, by rw [← hK]; exact s.sub.sqT (.of q), fun z => ?_, fun _ l hl => fin_tup p s (rr.cut lo hi) hl⟩)
      rw [← rr.length] at z
      have hc : Z.cut ds lo hi = ds := by
        unfold Z.cut
        rw [z.1, z.2]
        simp
      rw [hc] at p
      exact p.here s ⟨a, vs, rfl, q, rr⟩
    | _ => exact .inr (.inr (lst p))
theorem de_sl (hK : W.K = X.K) {lo hi : Option Expr} {p2 : Pos} {fl fh : Env → Sto → Res (Option Int)} (ha : PE X a (tD W Es fa)) (hl : PO X lo (tDO W Es fl)) (hh : PO X hi (tDO W Es fh)) :
    PE X (.Subscript a (.Slice lo hi none p2) pos) (tD W Es fun ρ S => (fa ρ S).bind fun x S => (fl ρ S).bind fun l S => (fh ρ S).bind fun h S => slice x l h S) :=
  peI (pe_slice (sl_str.or (sl_tupA.or sl_list)) ha hl hh) fun σ H Q ⟨α, F, ρ, S, s, er, p⟩ => ⟨α, F, ρ, S, s, er, (Post.bind p).imp fun v H1 ⟨α1, F1, x, S1, x1, s1, r1, p1⟩ =>
    ⟨α1, F1, ρ, S1, s1, er.ext x1, (Post.bind (Rel := RelE) p1).imp fun l H2 ⟨α2, F2, l', S2, x2, s2, r2, p2⟩ => ⟨α2, F2, ρ, S2, s2, (er.ext x1).ext x2, (Post.bind (Rel := RelE) p2).imp fun h H3 ⟨α3, F3, h', S3, x3, s3, r3, p3⟩ => by
      cases (show l' = l from r2)
      cases (show h' = h from r3)
      exact sl_of hK s3 (r1.ext (x2.trans x3)) p3⟩⟩⟩
end
end Z
end

section
set_option maxHeartbeats 1000000
/-! Z10: built-in functions and methods. -/
namespace Z
open PySem L2

section
variable {X : Cx} {W : Wd} {E : XK} {Es : SX} {a b c e : Expr} {es : List Expr} {pos : Pos} {fa fb fc : Env → Sto → Res Vl}
variable {α : Nat → Addr} {F : Hp} {S : Sto} {H : Hp} {Q : VK} {x y : Vl} {v u : V}

theorem VlRs.one {x : Vl} {vs : List V} {N : Nat} (r : VlRs W α F N [x] vs) : ∃ v, vs = [v] ∧ VlR W α F N x v := by
  cases r with
  | cons h t => cases t; exact ⟨_, rfl, h⟩
theorem VlRs.two {x y : Vl} {vs : List V} {N : Nat} (r : VlRs W α F N [x, y] vs) : ∃ v u, vs = [v, u] ∧ VlR W α F N x v ∧ VlR W α F N y u := by
  cases r with
  | cons h t =>
    obtain ⟨u, rfl, r2⟩ := t.one
    exact ⟨_, _, rfl, h, r2⟩

/-! ### one by one -/
theorem callOr {f : Value} {r r' : List V → Hp → VK → Prop} (h : CallR X f r) (h' : CallR X f r') : CallR X f (fun xs H Q => r xs H Q ∨ r' xs H Q) := fun pins s σ H xs us Q I rx q => q.elim (h pins s σ H xs us Q I rx) (h' pins s σ H xs us Q I rx)
/-- the keys of a dict -/
theorem keys_flat' {F : Hp} : ∀ {ks : List D} {kk : List Key}, ks.map keyK = kk.map some → Rps W F ks (kk.map kV)
  | [], [], _ => rfl
  | [], _ :: _, h => by simp at h
  | _ :: _, [], h => by simp at h
  | k :: ks, c :: kk, h => by
    simp only [List.map_cons, List.cons.injEq] at h
    refine ⟨kV c, kk.map kV, rfl, ?_, keys_flat' h.2⟩
    cases k with
    | int i => cases h.1; rfl
    | str z => cases h.1; rfl
    | _ => exact absurd h.1 (by simp [keyK])
theorem keysOf_of (s : Sr W α F S H) (r : VlR W α F S.length x v) {ks : List D} (h : keysOf x S = some ks) : ∃ a kvs, v = .ref a ∧ H a = some (.dK kvs) ∧ kvs.length = ks.length ∧ Rps W F ks (kvs.map fun kv => kV kv.1) := by
  have fin : ∀ {a : Addr} {t : Bool} {ks : List D} {ws : List V}, (!t) = true → DctR H a t ks ws → ∃ kvs : List (Key × V), H a = some (.dK kvs) ∧ kvs.length = ks.length ∧ Rps W F ks (kvs.map fun kv => kV kv.1) := fun {a t ks ws} ht hd => by
    rcases hd with ⟨_, kk, h1, h2, h3⟩ | ⟨e1, _⟩
    · have hl := congrArg List.length h1
      simp only [List.length_map] at hl
      refine ⟨_, h3, by rw [List.length_zip, ← h2, Nat.min_self, hl], ?_⟩
      have e : (kk.zip ws).map (fun kv => kV kv.1) = kk.map kV := by
        have : (fun kv : Key × V => kV kv.1) = kV ∘ Prod.fst := rfl
        rw [this, ← List.map_map, List.map_fst_zip (Nat.le_of_eq h2)]
      rw [e]
      exact keys_flat' h1
    · rw [e1] at ht; cases ht
  cases x with
  | p n =>
    obtain ⟨ev, hl⟩ := (show v = .ref (α n) ∧ n < S.length from r)
    simp only [keysOf] at h
    cases hn : S[n]? with
    | none => rw [hn] at h; cases h
    | some c =>
      rw [hn] at h
      cases c with
      | dct t kvs =>
        simp only at h
        by_cases ht : (!t) = true
        · rw [if_pos ht] at h
          cases h
          obtain ⟨ws, hd, rr⟩ := s.cel n _ hn
          obtain ⟨q, h1, h2, h3⟩ := fin ht hd
          exact ⟨_, q, ev, h1, h2, h3⟩
        · rw [if_neg ht] at h; cases h
      | _ => cases h
  | d x =>
    cases x with
    | dct t ks' ds =>
      have h : (if !t && ks'.length == ds.length then some ks' else none) = some ks := h
      by_cases ht : (!t && ks'.length == ds.length) = true
      · rw [if_pos ht] at h
        cases h
        rw [Bool.and_eq_true] at ht
        obtain ⟨a, ws, rfl, hd, rr⟩ := r
        obtain ⟨q, h1, h2, h3⟩ := fin ht.1 (hd.mono (s.sub a))
        exact ⟨_, q, rfl, h1, h2, h3⟩
      · rw [if_neg ht] at h; cases h
    | _ => cases h
theorem len_of (hK : W.K = X.K) (s : Sr W α F S H) (r : VlR W α F S.length x v) (p : Post W E (VlX W) α F S H (bLen x S) Q) : (∃ n : Nat, LenV X.K v H n ∧ Q (.int n) H) ∨ ∃ a kvs, v = .ref a ∧ H a = some (.dK kvs) ∧ Q (.int kvs.length) H := by
  unfold bLen at p
  cases e : seqOf x S with
  | some xs =>
    rw [e] at p
    obtain ⟨a, vs, rfl, q, rr⟩ := r.seq s e
    rw [hK] at q
    refine .inl ⟨xs.length, ?_, p.here s rfl⟩
    rcases q with q | q
    · exact .inl ⟨vs, q, rr.length⟩
    · exact .inr ⟨vs, q, rr.length⟩
  | none =>
    rw [e] at p
    have dc : Post W E (VlX W) α F S H (match keysOf x S with
      | some ks => .ok (.d (.int ks.length)) S
      | none => .bad) Q → ∃ a kvs, v = .ref a ∧ H a = some (.dK kvs) ∧ Q (.int kvs.length) H := fun p => by
      cases ek : keysOf x S with
      | none => rw [ek] at p; exact p.elim
      | some ks =>
        rw [ek] at p
        obtain ⟨a, kvs, e1, h1, h2, h3⟩ := keysOf_of s r ek
        exact ⟨a, kvs, e1, h1, by rw [h2]; exact p.here s rfl⟩
    cases x with
    | p n => exact .inr (dc p)
    | d x =>
      cases x with
      | str z =>
        have p : Post W E (VlX W) α F S H (if decide (z.length ≤ most) then .ok (.d (.int z.length)) S else .bad) Q := p
        by_cases hz : z.length ≤ most
        · rw [if_pos (by simpa using hz)] at p
          cases (show v = V.str ⟨z.toArray⟩ from r)
          exact .inl ⟨z.length, ⟨by rw [str_len, ← most_eq]; exact hz, (str_len z).symm⟩, p.here s rfl⟩
        · rw [if_neg (by simpa using hz)] at p; exact p.elim
      | _ => exact .inr (dc p)
theorem abs_of (s : Sr W α F S H) (r : VlR W α F S.length x v) (p : Post W E (VlX W) α F S H (bAbs x S) Q) : ∃ i, v = .int i ∧ Q (.int (if i < 0 then -i else i)) H := by
  cases x with
  | p n => exact p.elim
  | d x =>
    cases x with
    | int i => exact ⟨i, r, p.here s rfl⟩
    | _ => exact p.elim
theorem int_of (s : Sr W α F S H) (r : VlR W α F S.length x v) (p : Post W E (VlX W) α F S H (bInt x S) Q) : (∃ i, v = .int i ∧ Q (.int i) H) ∨ ∃ k, v = .bl k ∧ Q (.int (if k then 1 else 0)) H := by
  cases x with
  | p n => exact p.elim
  | d x =>
    cases x with
    | int i => exact .inl ⟨i, r, p.here s rfl⟩
    | bl i => exact .inr ⟨i, r, p.here s rfl⟩
    | _ => exact p.elim
theorem list_of (hK : W.K = X.K) {cell : Bool} (s : Sr W α F S H) (r : VlR W α F S.length x v) (p : Post W E (VlX W) α F S H (bList cell x S) Q) : (∃ q ys, v = .ref q ∧ (SqL X.K H q ys ∨ SqT X.K H q ys) ∧ ∀ l, H l = none → Q (.ref l) (upd H l (.lst ys))) ∨ ∃ a kvs, v = .ref a ∧ H a = some (.dK kvs) ∧ ∀ l, H l = none → Q (.ref l) (upd H l (.lst (kvs.map fun kv => kV kv.1))) := by
  unfold bList at p
  cases e : seqOf x S with
  | none =>
    rw [e] at p
    cases ek : keysOf x S with
    | none => rw [ek] at p; exact p.elim
    | some ks =>
      rw [ek] at p
      obtain ⟨a, kvs, e1, h1, h2, h3⟩ := keysOf_of s r ek
      exact .inr ⟨a, kvs, e1, h1, (fin_new p s (VlRs.of_pure h3)).2⟩
  | some xs =>
    rw [e] at p
    obtain ⟨a, vs, rfl, q, rr⟩ := r.seq s e
    rw [hK] at q
    exact .inl ⟨a, vs, rfl, q, (fin_new p s rr).2⟩
theorem tuple_of (hK : W.K = X.K) (s : Sr W α F S H) (r : VlR W α F S.length x v) (p : Post W E (VlX W) α F S H (bTuple x S) Q) :
    ∃ q ys, v = .ref q ∧ ((SqL X.K H q ys ∧ ∀ l, H l = none → Q (.ref l) (upd H l (.tup ys))) ∨ (SqT X.K H q ys ∧ Q (.ref q) H)) := by
  have lst : ∀ {x : Vl}, VlR W α F S.length x v → Post W E (VlX W) α F S H (match listOf x S with
    | some xs => match pures xs with
      | some ds => .ok (.d (.tup ds)) S
      | none => .bad
    | none => .bad) Q → ∃ q ys, v = .ref q ∧ ((SqL X.K H q ys ∧ ∀ l, H l = none → Q (.ref l) (upd H l (.tup ys))) ∨ (SqT X.K H q ys ∧ Q (.ref q) H)) := fun {x} r p => by
    cases ex : listOf x S with
    | none => rw [ex] at p; exact p.elim
    | some xs =>
      rw [ex] at p
      simp only at p
      cases px : pures xs with
      | none => rw [px] at p; exact p.elim
      | some ds =>
        rw [px] at p
        obtain ⟨a, vs, rfl, q1, r1⟩ := r.list s ex
        exact ⟨a, vs, rfl, .inl ⟨.of q1, fun l hl => fin_tup p s (r1.pures px) hl⟩⟩
  cases x with
  | p n => exact lst r p
  | d x =>
    cases x with
    | tup ds =>
      obtain ⟨a, vs, rfl, q, rr⟩ := (show Rp W F (.tup ds) v from r)
      exact ⟨a, vs, rfl, .inr ⟨by rw [← hK]; exact s.sub.sqT (.of q), p.here s ⟨a, vs, rfl, q, rr⟩⟩⟩
    | _ => exact lst r p
theorem ofL {τ : Type} {f : List D → Option τ} {g : τ → D} {toV : τ → List V} (hf : ∀ {F : Hp} {ds : List D} {t : τ} {vs : List V}, f ds = some t → Rps W F ds vs → vs = toV t)
    (s : Sr W α F S H) (r : VlR W α F S.length x v) (p : Post W E (VlX W) α F S H (bOf f g x S) Q) : ∃ a t, v = .ref a ∧ H a = some (.lst (toV t)) ∧ Post W E (VlX W) α F S H (.ok (.d (g t)) S) Q := by
  unfold bOf at p
  cases ex : listOf x S with
  | none => rw [ex] at p; exact p.elim
  | some xs =>
    rw [ex] at p
    simp only at p
    cases px : pures xs with
    | none => rw [px] at p; exact p.elim
    | some ds =>
      rw [px] at p
      simp only at p
      cases hd : f ds with
      | none => rw [hd] at p; exact p.elim
      | some t =>
        rw [hd] at p
        obtain ⟨a, vs, rfl, q1, r1⟩ := r.list s ex
        have := hf hd (r1.pures px)
        subst this
        exact ⟨a, t, rfl, q1, p⟩
theorem intL_v : ∀ {ds : List D} {ns : List Int} {vs : List V}, intL ds = some ns → Rps W F ds vs → vs = ns.map V.int
  | [], ns, vs, h, r => by cases h; exact r
  | d :: ds, ns, vs, h, r => by
    obtain ⟨v, q, e, r1, r2⟩ := r
    subst e
    cases d <;> simp [intL] at h
    obtain ⟨m, hm, rfl⟩ := h
    rw [List.map_cons, ← intL_v hm r2, show v = _ from r1]
theorem boolL_v : ∀ {ds : List D} {ns : List Bool} {vs : List V}, boolL ds = some ns → Rps W F ds vs → vs = ns.map V.bl
  | [], ns, vs, h, r => by cases h; exact r
  | d :: ds, ns, vs, h, r => by
    obtain ⟨v, q, e, r1, r2⟩ := r
    subst e
    cases d <;> simp [boolL] at h
    obtain ⟨m, hm, rfl⟩ := h
    rw [List.map_cons, ← boolL_v hm r2, show v = _ from r1]
theorem textL_v : ∀ {ds : List D} {ns : List Tx} {vs : List V}, textL ds = some ns → Rps W F ds vs → vs = (ns.map mk).map V.str
  | [], ns, vs, h, r => by cases h; exact r
  | d :: ds, ns, vs, h, r => by
    obtain ⟨v, q, e, r1, r2⟩ := r
    subst e
    cases d <;> simp [textL] at h
    obtain ⟨m, hm, rfl⟩ := h
    rw [List.map_cons, List.map_cons, ← textL_v hm r2, show v = _ from r1]
    rfl

/-! ### by their names -/
theorem CallR.imp {f : Value} {r r' : List V → Hp → VK → Prop} (h : CallR X f r) (k : ∀ x H Q, r' x H Q → r x H Q) : CallR X f r' := fun pins s σ H xs us Q I rx q => h pins s σ H xs us Q I rx (k _ _ _ q)
/-- what a built-in of this name is -/
def IsFn (x : Str) (f : Value) : Prop := (∃ id, f = .builtin id ∧ bootBuiltins x = some (.builtin id)) ∨ ∃ T, f = .type T ∧ bootBuiltins x = some (.type T)
theorem cBf_cases {x : Str} {b : Bf} (h : cBf x = some b) : (x = "len" ∧ b = .len) ∨ (x = "abs" ∧ b = .abs) ∨ (x = "int" ∧ b = .int) ∨ (x = "list" ∧ b = .list) ∨ (x = "tuple" ∧ b = .tuple) ∨ (x = "sum" ∧ b = .sum) ∨ (x = "min" ∧ b = .min) ∨ (x = "max" ∧ b = .max) ∨ (x = "any" ∧ b = .any) ∨ (x = "all" ∧ b = .all) ∨ (x = "sorted" ∧ b = .sorted) := by
  unfold cBf at h
  repeat' split at h
  all_goals first
    | (cases h; done)
    | (rename_i hx; have hx := beq_iff_eq.mp hx; cases h; subst hx; simp)
/-- sorted(l), data that are alike -/
def rSortedD (K : PySem.W.Frag) : List V → Hp → VK → Prop := fun vs H Q => ∃ (a : Addr) (bs : List (V × PyData)), vs = [V.ref a] ∧ SqL K H a (bs.map (·.1)) ∧ (∀ p ∈ bs, Dp K H p.1 p.2 ∧ SeqAt.shaped p.2 = true) ∧ PySem.W.AllAlike (bs.map (·.2)) ∧ PySem.W.Sortable (bs.map (·.2)) ∧
  ∀ p, H p = none → Q (.ref p) (upd H p (.lst ((bs.mergeSort fun a b => !PySem.W.dataLt b.2 a.2).map (·.1))))
theorem vals_each {bs : List (V × PyData)} : ∀ {us : List Value}, Vals (bs.map (·.1)) us → PySem.W.EachIs (fun v b => RelV b.1 v) us bs := by
  induction bs with
  | nil => intro us r; cases r; exact .nil
  | cons b bs ih =>
    intro us r
    cases r with
    | cons h t => exact .cons h (ih t)
theorem each_vals {bs : List (V × PyData)} : ∀ {us : List Value}, PySem.W.EachIs (fun v b => RelV b.1 v) us bs → Vals (bs.map (·.1)) us := by
  induction bs with
  | nil => intro us r; cases r; exact .nil
  | cons b bs ih =>
    intro us r
    cases r with
    | cons h t => exact .cons h (ih t)
theorem cr_sortedD (hu : X.A.units + 100 < cLine) : CallR X (.builtin "sorted") (rSortedD X.K) := by
  intro pins s σ H vs us Q I r h
  obtain ⟨a, bs, rfl, hs, hd, hal, hk, q⟩ := h
  obtain ⟨its, rv, hl, hz⟩ := I.list hs
  rw [Vals.ref1 r]
  have e := vals_each rv
  have hzb : bs.length ≤ sizeLine := by rw [List.length_map] at hz; exact hz
  have er : PySem.W.EachIs (fun v b => ∃ as, Reads s.heap v b.2 as) its bs := by
    have key : ∀ {us : List Value} {cs : List (V × PyData)}, PySem.W.EachIs (fun v b => RelV b.1 v) us cs → (∀ p ∈ cs, Dp X.K H p.1 p.2) → PySem.W.EachIs (fun v b => ∃ as, Reads s.heap v b.2 as) us cs := by
      intro us cs e
      induction e with
      | nil => intro _; exact .nil
      | cons h t ih => exact fun hd => .cons (Dp.reads I _ _ _ (hd _ (List.mem_cons_self ..)) h) (ih fun p hp => hd p (List.mem_cons_of_mem _ hp))
    exact key e fun p hp => (hd p hp).1
  refine PySem.W.sorted_data (enc := fun b : V × PyData => b.2) hl.isList e er hal hk hzb (fun b hb => ?_) fun out h1 h2 => ?_
  · have := SeqAt.depth_of_shaped (hd b hb).2
    omega
  · obtain ⟨ep, he'⟩ := PyProof.Rows.sortedAll_at s.heap its out.toArray
    have hv := each_vals h2
    have hlen : ((bs.mergeSort (PySem.W.dataLe false fun b : V × PyData => b.2)).map (·.1)).length ≤ sizeLine := by rw [List.length_map, List.length_mergeSort]; exact hzb
    refine ⟨.ref _, upd H (s.heap.objs.size + 1) (.lst ((bs.mergeSort (PySem.W.dataLe false fun b : V × PyData => b.2)).map (·.1))), I.laid (t' := s.toks) (fun _ _ => PyProof.Rows.sortedAll_old) (Nat.le_succ _) ⟨hlen, out, ep, hv, he'⟩, rfl, ?_⟩
    have := q (s.heap.objs.size + 1) (I.hok.fresh (Nat.le_succ _))
    rw [PySem.W.dataLe_eq]
    exact this
theorem zip_rps {F : Hp} : ∀ {ds : List D} {vs : List V}, Rps W F ds vs → ∃ ps : List (D × V), ds = ps.map (·.1) ∧ vs = ps.map (·.2) ∧ ∀ p ∈ ps, Rp W F p.1 p.2
  | [], vs, r => by cases (show vs = [] from r); exact ⟨[], rfl, rfl, fun _ h => nomatch h⟩
  | d :: ds, vs, r => by
    obtain ⟨v, q, e, r1, r2⟩ := r
    obtain ⟨ps, e1, e2, h⟩ := zip_rps r2
    refine ⟨(d, v) :: ps, by rw [List.map_cons, ← e1], by rw [e, List.map_cons, ← e2], fun p hp => ?_⟩
    rcases List.mem_cons.mp hp with rfl | hp
    · exact r1
    · exact h p hp
theorem zip_vls {α : Nat → Addr} {F : Hp} {N : Nat} : ∀ {ps : List (D × V)}, (∀ p ∈ ps, Rp W F p.1 p.2) → VlRs W α F N ((ps.map (·.1)).map .d) (ps.map (·.2))
  | [], _ => .nil
  | p :: ps, h => .cons (h p (List.mem_cons_self ..)) (zip_vls fun q hq => h q (List.mem_cons_of_mem _ hq))
theorem sorted_of (hK : W.K = X.K) {cell : Bool} (s : Sr W α F S H) (r : VlR W α F S.length x v) (p : Post W E (VlX W) α F S H (bSorted cell x S) Q) : rSortedD X.K [v] H Q := by
  unfold bSorted at p
  cases ex : listOf x S with
  | none => rw [ex] at p; exact p.elim
  | some xs =>
    rw [ex] at p
    simp only at p
    cases px : pures xs with
    | none => rw [px] at p; exact p.elim
    | some ds =>
      rw [px] at p
      simp only at p
      by_cases hz : sortOk ds = true
      · rw [if_pos hz] at p
        unfold sortOk at hz
        rw [Bool.and_eq_true, List.all_eq_true] at hz
        obtain ⟨hz1, hz2⟩ := hz
        have hz1 : ∀ a ∈ ds, isData 64 a = true ∧ ∀ b ∈ ds, alikeD a b = true := fun a ha => by
          have := hz1 a ha
          rw [Bool.and_eq_true, List.all_eq_true] at this
          exact this
        obtain ⟨a, vs, rfl, q1, r1⟩ := r.list s ex
        obtain ⟨ps, rfl, rfl, hp⟩ := zip_rps (r1.pures px)
        have mem : ∀ {q : D × V}, q ∈ ps → q.1 ∈ ps.map (·.1) := fun h => List.mem_map.mpr ⟨_, h, rfl⟩
        refine ⟨a, ps.map fun q => (q.2, toPy q.1), rfl, ?_, fun b hb => ?_, fun d hd d' hd' => ?_, ?_, fun l hl => ?_⟩
        · have : (ps.map fun q : D × V => (q.2, toPy q.1)).map (·.1) = ps.map (·.2) := by rw [List.map_map]; rfl
          rw [this]
          exact .of q1
        · obtain ⟨q, hq, rfl⟩ := List.mem_map.mp hb
          have := (hz1 q.1 (mem hq)).1
          exact ⟨dp_of hK s.sub 64 _ _ this (hp q hq), shaped_of this⟩
        · obtain ⟨b, hb, rfl⟩ := List.mem_map.mp hd
          obtain ⟨b', hb', rfl⟩ := List.mem_map.mp hd'
          obtain ⟨q, hq, rfl⟩ := List.mem_map.mp hb
          obtain ⟨q', hq', rfl⟩ := List.mem_map.mp hb'
          exact (hz1 q.1 (mem hq)).2 q'.1 (mem hq')
        · rw [Bool.or_eq_true, List.all_eq_true, List.all_eq_true] at hz2
          rcases hz2 with h | h
          · refine .inl fun d hd => ?_
            obtain ⟨b, hb, rfl⟩ := List.mem_map.mp hd
            obtain ⟨q, hq, rfl⟩ := List.mem_map.mp hb
            have := h q.1 (mem hq)
            obtain ⟨d, w⟩ := q
            cases d with
            | tup ds =>
              cases ds with
              | nil => cases this
              | cons y ys => exact ⟨toPy y, toPys ys, rfl⟩
            | _ => cases this
          · refine .inr fun d hd => ?_
            obtain ⟨b, hb, rfl⟩ := List.mem_map.mp hd
            obtain ⟨q, hq, rfl⟩ := List.mem_map.mp hb
            have h1 := h q.1 (mem hq)
            have h2 := (hz1 q.1 (mem hq)).1
            obtain ⟨d, w⟩ := q
            cases d <;> first | (cases h1; done) | (cases h2; done) | (refine ⟨(fun z => nomatch z), (fun _ z => nomatch z)⟩)
        · have e1 : (ps.map (·.1)).mergeSort leDt = (ps.mergeSort fun a b => leDt a.1 b.1).map (·.1) := (List.map_mergeSort (f := fun q : D × V => q.1) (r := fun a b => leDt a.1 b.1) (s := leDt) (l := ps) fun _ _ _ _ => rfl).symm
          have e2 : ((ps.map fun q : D × V => (q.2, toPy q.1)).mergeSort fun a b => !PySem.W.dataLt b.2 a.2) = (ps.mergeSort fun a b => leDt a.1 b.1).map fun q => (q.2, toPy q.1) := (List.map_mergeSort (f := fun q : D × V => (q.2, toPy q.1)) (r := fun a b => leDt a.1 b.1) (s := fun a b => !PySem.W.dataLt b.2 a.2) (l := ps) fun _ _ _ _ => rfl).symm
          rw [e1] at p
          have := (fin_new p s (zip_vls fun q hq => hp q (List.mem_mergeSort.mp hq))).2 l hl
          rw [e2, List.map_map]
          exact this
      · rw [if_neg hz] at p
        exact p.elim
theorem bf_rule (hK : W.K = X.K) (hu : X.A.units + 100 < cLine) (hc : X.calm = true) {x : Str} {b : Bf} (h : cBf x = some b) (cell : Bool) : ∃ (f : Value) (r : List V → Hp → VK → Prop), IsFn x f ∧ CallR X f r ∧
    ∀ {E : XK} {α F S H as vs} {Q : VK}, Sr W α F S H → VlRs W α F S.length as vs → Post W E (VlX W) α F S H (builtin b cell as S) Q → r vs H Q := by
  have un : ∀ {f : Value} {r : V → Hp → VK → Prop}, IsFn x f → CallR X f (fun vs H Q => ∃ v, vs = [v] ∧ r v H Q) → (∀ {E : XK} {α F S H w v} {Q : VK}, Sr W α F S H → VlR W α F S.length w v → Post W E (VlX W) α F S H (builtin b cell [w] S) Q → r v H Q) →
      (∀ S as, (∀ w, as ≠ [w]) → builtin b cell as S = .bad) → ∃ (f : Value) (r : List V → Hp → VK → Prop), IsFn x f ∧ CallR X f r ∧
      ∀ {E : XK} {α F S H as vs} {Q : VK}, Sr W α F S H → VlRs W α F S.length as vs → Post W E (VlX W) α F S H (builtin b cell as S) Q → r vs H Q := fun {f r} h1 h2 h3 h4 => by
    refine ⟨f, _, h1, h2, fun {E α F S H as vs Q} s rs p => ?_⟩
    by_cases hw : ∃ w, as = [w]
    · obtain ⟨w, rfl⟩ := hw
      obtain ⟨v, rfl, r1⟩ := rs.one
      exact ⟨v, rfl, h3 s r1 p⟩
    · rw [h4 S as fun w e => hw ⟨w, e⟩] at p
      exact p.elim
  have nope : ∀ {b : Bf} {S : Sto} {as : List Vl}, (∀ w, as ≠ [w]) → (b ≠ .min ∧ b ≠ .max ∧ b ≠ .gcd) → builtin b cell as S = .bad := fun {b S as} h hb => by
    match as, h with
    | [], _ => rfl
    | [w], h => exact absurd rfl (h w)
    | [v, w], _ => cases b <;> first | rfl | (exact absurd rfl hb.1) | (exact absurd rfl hb.2.1) | (exact absurd rfl hb.2.2)
    | _ :: _ :: _ :: _, _ => rfl
  have two2 : ∀ {f : Value} {g : Int → Int → Int}, IsFn x f → CallR X f (fun vs H Q => ∃ i j, vs = [.int i, .int j] ∧ Q (.int (g i j)) H) → (∀ S v w, builtin b cell [v, w] S = opI (fun _ _ => true) g v w S) →
      (∀ S as, (∀ v w, as ≠ [v, w]) → builtin b cell as S = .bad) → ∃ (f : Value) (r : List V → Hp → VK → Prop), IsFn x f ∧ CallR X f r ∧
      ∀ {E : XK} {α F S H as vs} {Q : VK}, Sr W α F S H → VlRs W α F S.length as vs → Post W E (VlX W) α F S H (builtin b cell as S) Q → r vs H Q := fun {f g} h1 h2 h3 h4 => by
    refine ⟨f, _, h1, h2, fun {E α F S H as vs Q} s rs p => ?_⟩
    by_cases hw : ∃ v w, as = [v, w]
    · obtain ⟨v, w, rfl⟩ := hw
      obtain ⟨v', w', rfl, r1, r2⟩ := rs.two
      rw [h3] at p
      obtain ⟨i, j, rfl, rfl, _, q⟩ := bin_int (C := fun _ _ => True) (fun _ _ _ => trivial) s r1 r2 p
      exact ⟨i, j, rfl, q⟩
    · rw [h4 S as fun v w e => hw ⟨v, w, e⟩] at p
      exact p.elim
  have nope2 : ∀ {b : Bf} {S : Sto} {as : List Vl}, (∀ v w, as ≠ [v, w]) → (b = .min ∨ b = .max) → builtin b cell as S = .bad := fun {b S as} h hb => by
    match as, h with
    | [], _ => rfl
    | [w], _ => rcases hb with rfl | rfl <;> rfl
    | [v, w], h => exact absurd rfl (h v w)
    | _ :: _ :: _ :: _, _ => rfl
  rcases cBf_cases h with ⟨rfl, rfl⟩ | ⟨rfl, rfl⟩ | ⟨rfl, rfl⟩ | ⟨rfl, rfl⟩ | ⟨rfl, rfl⟩ | ⟨rfl, rfl⟩ | ⟨rfl, rfl⟩ | ⟨rfl, rfl⟩ | ⟨rfl, rfl⟩ | ⟨rfl, rfl⟩ | ⟨rfl, rfl⟩
  · exact un (f := .builtin "len") (r := fun v H Q => (∃ n : Nat, LenV X.K v H n ∧ Q (.int n) H) ∨ ∃ a kvs, v = .ref a ∧ H a = some (.dK kvs) ∧ Q (.int kvs.length) H) (.inl ⟨_, rfl, by decide +kernel⟩) (CallR.imp (callOr call_len call_lenD) fun xs H Q ⟨v, e, q⟩ => q.imp (fun ⟨n, l, q⟩ => ⟨v, n, e, l, q⟩) fun ⟨a, kvs, e1, h1, q⟩ => ⟨a, kvs, by rw [e, e1], h1, q⟩) (fun s r p => len_of hK s r p) fun S as h => nope h ⟨by decide, by decide, by decide⟩
  · exact un (f := .builtin "abs") (r := fun v H Q => ∃ i, v = .int i ∧ Q (.int (if i < 0 then -i else i)) H) (.inl ⟨_, rfl, by decide +kernel⟩) (CallR.imp call_abs fun xs H Q ⟨v, e, i, l, q⟩ => ⟨i, by rw [e, l], q⟩) (fun s r p => abs_of s r p) fun S as h => nope h ⟨by decide, by decide, by decide⟩
  · exact un (f := .type "int") (r := fun v H Q => (∃ i, v = .int i ∧ Q (.int i) H) ∨ ∃ k, v = .bl k ∧ Q (.int (if k then 1 else 0)) H) (.inr ⟨_, rfl, by decide +kernel⟩) (CallR.imp call_int1 fun xs H Q ⟨v, e, h⟩ => by
      rcases h with ⟨i, l, q⟩ | ⟨i, l, q⟩
      · exact .inl ⟨i, by rw [e, l], q⟩
      · exact .inr ⟨i, by rw [e, l], q⟩) (fun s r p => int_of s r p) fun S as h => nope h ⟨by decide, by decide, by decide⟩
  · exact un (f := .type "list") (r := fun v H Q => (∃ q ys, v = .ref q ∧ (SqL X.K H q ys ∨ SqT X.K H q ys) ∧ ∀ l, H l = none → Q (.ref l) (upd H l (.lst ys))) ∨ ∃ a kvs, v = .ref a ∧ H a = some (.dK kvs) ∧ ∀ l, H l = none → Q (.ref l) (upd H l (.lst (kvs.map fun kv => kV kv.1)))) (.inr ⟨_, rfl, by decide +kernel⟩) (CallR.imp (callOr call_list_of (call_listD hc)) fun xs H Q ⟨v, e, q⟩ => q.imp (fun ⟨a, ys, l, q⟩ => ⟨a, ys, by rw [e, l], q⟩) fun ⟨a, kvs, e1, h1, q⟩ => ⟨a, kvs, by rw [e, e1], .inl h1, q⟩) (fun s r p => list_of hK s r p) fun S as h => nope h ⟨by decide, by decide, by decide⟩
  · exact un (f := .type "tuple") (r := fun v H Q => ∃ q ys, v = .ref q ∧ ((SqL X.K H q ys ∧ ∀ l, H l = none → Q (.ref l) (upd H l (.tup ys))) ∨ (SqT X.K H q ys ∧ Q (.ref q) H))) (.inr ⟨_, rfl, by decide +kernel⟩) (CallR.imp call_tuple_of fun xs H Q ⟨v, e, a, ys, l, q⟩ => ⟨a, ys, by rw [e, l], q⟩) (fun s r p => tuple_of hK s r p) fun S as h => nope h ⟨by decide, by decide, by decide⟩
  · exact un (f := .builtin "sum") (r := fun v H Q => ∃ (a : Addr) (ns : List Int), v = .ref a ∧ SqL X.K H a (ns.map V.int) ∧ Q (.int ns.sum) H) (.inl ⟨_, rfl, by decide +kernel⟩) (CallR.imp (cr_sum hc) fun xs H Q ⟨v, e, a, ns, l, q1, q2⟩ => ⟨a, ns, by rw [e, l], q1, q2⟩) (fun s r p => by
      obtain ⟨a, t, rfl, q, p⟩ := ofL (toV := fun ns : List Int => ns.map V.int) (fun h r => intL_v h r) s r p
      exact ⟨a, t, rfl, .of q, p.here s rfl⟩) fun S as h => nope h ⟨by decide, by decide, by decide⟩
  · exact two2 (f := .builtin "min") (.inl ⟨_, rfl, by decide +kernel⟩) (call_min2 hc) (fun _ _ _ => rfl) fun S as h => nope2 h (.inl rfl)
  · exact two2 (f := .builtin "max") (.inl ⟨_, rfl, by decide +kernel⟩) (call_max2 hc) (fun _ _ _ => rfl) fun S as h => nope2 h (.inr rfl)
  · exact un (f := .builtin "any") (r := fun v H Q => ∃ (a : Addr) (ns : List Bool), v = .ref a ∧ SqL X.K H a (ns.map V.bl) ∧ Q (.bl (ns.any id)) H) (.inl ⟨_, rfl, by decide +kernel⟩) (CallR.imp (cr_any hc) fun xs H Q ⟨v, e, a, ns, l, q1, q2⟩ => ⟨a, ns, by rw [e, l], q1, q2⟩) (fun s r p => by
      obtain ⟨a, t, rfl, q, p⟩ := ofL (toV := fun ns : List Bool => ns.map V.bl) (fun h r => boolL_v h r) s r p
      exact ⟨a, t, rfl, .of q, p.here s rfl⟩) fun S as h => nope h ⟨by decide, by decide, by decide⟩
  · exact un (f := .builtin "all") (r := fun v H Q => ∃ (a : Addr) (ns : List Bool), v = .ref a ∧ SqL X.K H a (ns.map V.bl) ∧ Q (.bl (ns.all id)) H) (.inl ⟨_, rfl, by decide +kernel⟩) (CallR.imp (cr_all hc) fun xs H Q ⟨v, e, a, ns, l, q1, q2⟩ => ⟨a, ns, by rw [e, l], q1, q2⟩) (fun s r p => by
      obtain ⟨a, t, rfl, q, p⟩ := ofL (toV := fun ns : List Bool => ns.map V.bl) (fun h r => boolL_v h r) s r p
      exact ⟨a, t, rfl, .of q, p.here s rfl⟩) fun S as h => nope h ⟨by decide, by decide, by decide⟩
  · exact un (f := .builtin "sorted") (r := fun v H Q => rSortedD X.K [v] H Q) (.inl ⟨_, rfl, by decide +kernel⟩) (CallR.imp (cr_sortedD hu) fun xs H Q ⟨v, e, q⟩ => by rw [e]; exact q) (fun s r p => sorted_of hK s r p) fun S as h => nope h ⟨by decide, by decide, by decide⟩

theorem de_bf (hK : W.K = X.K) (hu : X.A.units + 100 < cLine) (hc : X.calm = true) {x : Str} {b : Bf} {cell : Bool} {px : Pos} {fs : Env → Sto → Res (List Vl)} (hb : cBf x = some b) (hg : Gl X x) (hm : X.mg x = none) (hn : x ≠ "__name__") (hd : (x == ("__debug__" : Str)) = false)
    (h1 : notStar e = true) (h2 : es.all notStar = true) (ha : PA X (e :: es) (tDA W Es fs)) : PE X (.Call (.Name x px) (e :: es) [] pos) (tD W Es fun ρ S => (fs ρ S).bind fun vs S => builtin b cell vs S) := by
  obtain ⟨f, r, hf, hr, k⟩ := bf_rule hK hu hc hb cell
  have go : ∀ σ H Q, tD W Es (fun ρ S => (fs ρ S).bind fun vs S => builtin b cell vs S) σ H Q → tCB r (tDA W Es fs) σ H Q := fun σ H Q ⟨α, F, ρ, S, s, er, p⟩ =>
    ⟨α, F, ρ, S, s, er, (Post.bind (Rel := VlXs W) p).imp fun vs H1 ⟨α1, F1, xs, S1, x1, s1, r1, p1⟩ => k s1 r1 p1⟩
  rcases hf with ⟨id, rfl, hv⟩ | ⟨T, rfl, hv⟩
  · exact peI (pe_callB hr hg hm hv ha hn hd (star_cons h1) (star_none h2)) go
  · exact peI (pe_callTy hr hg hm hv ha hn hd (star_cons h1) (star_none h2)) go

/-! ### isinstance -/
theorem ty_of (hK : W.K = X.K) (s : Sr W α F S H) (r : VlR W α F S.length x v) {ks : List Nat} (h : typeOf x S = some ks) : ∃ T, TyX X.K H v (.type T) ∧ ∀ t n, cTy t = some n → ∃ U, bootBuiltins t = some (.type U) ∧ kitB T U = some (ks.contains n) := by
  have names : ∀ {T : String} {ks : List Nat}, kitB T "int" = some (ks.contains 0) → kitB T "str" = some (ks.contains 1) → kitB T "list" = some (ks.contains 2) → kitB T "tuple" = some (ks.contains 3) → kitB T "bool" = some (ks.contains 4) →
      ∀ t n, cTy t = some n → ∃ U, bootBuiltins t = some (.type U) ∧ kitB T U = some (ks.contains n) := fun {T ks} h0 h1 h2 h3 h4 t n h => by
    unfold cTy at h
    repeat' split at h
    · rename_i hx; have hx := beq_iff_eq.mp hx; cases h; subst hx; exact ⟨"int", by decide +kernel, h0⟩
    · rename_i hx; have hx := beq_iff_eq.mp hx; cases h; subst hx; exact ⟨"str", by decide +kernel, h1⟩
    · rename_i hx; have hx := beq_iff_eq.mp hx; cases h; subst hx; exact ⟨"list", by decide +kernel, h2⟩
    · rename_i hx; have hx := beq_iff_eq.mp hx; cases h; subst hx; exact ⟨"tuple", by decide +kernel, h3⟩
    · rename_i hx; have hx := beq_iff_eq.mp hx; cases h; subst hx; exact ⟨"bool", by decide +kernel, h4⟩
    · cases h
  cases x with
  | p n =>
    obtain ⟨e, hl⟩ := (show v = .ref (α n) ∧ n < S.length from r)
    simp only [typeOf] at h
    cases hn : S[n]? with
    | none => rw [hn] at h; cases h
    | some c =>
      rw [hn] at h
      cases c <;> simp at h
      subst h e
      obtain ⟨vs, hv, rr⟩ := s.cel n _ hn
      exact ⟨"list", .base (.lst hv), names (by decide +kernel) (by decide +kernel) (by decide +kernel) (by decide +kernel) (by decide +kernel)⟩
  | d x =>
    have r : Rp W F x v := r
    cases x <;> simp only [typeOf, Option.some.injEq, reduceCtorEq] at h <;> subst h
    · cases (show v = V.non from r)
      exact ⟨"NoneType", .base .non, names (by decide +kernel) (by decide +kernel) (by decide +kernel) (by decide +kernel) (by decide +kernel)⟩
    · cases (show v = V.bl _ from r)
      exact ⟨"bool", .base (.bl _), names (by decide +kernel) (by decide +kernel) (by decide +kernel) (by decide +kernel) (by decide +kernel)⟩
    · cases (show v = V.int _ from r)
      exact ⟨"int", .base (.int _), names (by decide +kernel) (by decide +kernel) (by decide +kernel) (by decide +kernel) (by decide +kernel)⟩
    · cases (show v = V.str _ from r)
      exact ⟨"str", .base (.str _), names (by decide +kernel) (by decide +kernel) (by decide +kernel) (by decide +kernel) (by decide +kernel)⟩
    · obtain ⟨a, vs, rfl, q, rr⟩ := r
      refine ⟨"tuple", ?_, names (by decide +kernel) (by decide +kernel) (by decide +kernel) (by decide +kernel) (by decide +kernel)⟩
      exact .base (.tup (s.sub _ _ q))
    · obtain ⟨a, vs, rfl, q, rr⟩ := r
      exact ⟨"list", .base (.lst (s.sub _ _ q)), names (by decide +kernel) (by decide +kernel) (by decide +kernel) (by decide +kernel) (by decide +kernel)⟩
theorem isi_of (p : Post W E (VlX W) α F S H (bIsi ts x S) Q) : ∃ ks, typeOf x S = some ks ∧ Post W E (VlX W) α F S H (.ok (.d (.bl (ts.any fun t => ks.contains t))) S) Q := by
  unfold bIsi isTypes at p
  cases e : typeOf x S with
  | none => rw [e] at p; exact p.elim
  | some ks => rw [e] at p; exact ⟨ks, rfl, p⟩
theorem cTy_ty {t : Str} {n : Nat} (h : cTy t = some n) : ∃ U, bootBuiltins t = some (.type U) := by
  unfold cTy at h
  repeat' split at h
  · rename_i hx; have hx := beq_iff_eq.mp hx; subst hx; exact ⟨"int", by decide +kernel⟩
  · rename_i hx; have hx := beq_iff_eq.mp hx; subst hx; exact ⟨"str", by decide +kernel⟩
  · rename_i hx; have hx := beq_iff_eq.mp hx; subst hx; exact ⟨"list", by decide +kernel⟩
  · rename_i hx; have hx := beq_iff_eq.mp hx; subst hx; exact ⟨"tuple", by decide +kernel⟩
  · rename_i hx; have hx := beq_iff_eq.mp hx; subst hx; exact ⟨"bool", by decide +kernel⟩
  · cases h
theorem boot_isinstance' : bootBuiltins "isinstance" = some (.builtin "isinstance") := by decide +kernel
theorem de_isi (hK : W.K = X.K) {t : Str} {n : Nat} {p1 p2 : Pos} (ht : cTy t = some n) (hg : Gl X "isinstance") (hm : X.mg "isinstance" = none) (hgt : Gl X t) (hmt : X.mg t = none) (hnt : t ≠ "__name__") (hdt : (t == ("__debug__" : Str)) = false)
    (hs : notStar e = true) (he : PE X e (tD W Es fa)) : PE X (.Call (.Name "isinstance" p1) [e, .Name t p2] [] pos) (tD W Es fun ρ S => (consF fa nilF ρ S).bind fun vs S => builtin (.isinst [n]) false vs S) := by
  obtain ⟨U, hU⟩ := cTy_ty ht
  have pt : PE X (.Name t p2) (tC (.ty U)) := pe_bltn hgt hmt hU rfl hnt hdt
  refine peI (pe_callB call_isi hg hm boot_isinstance' (pa_cons he (pa_cons pt pa_nil) (star_cons hs)) (by decide) (by decide) (star_cons hs) rfl) fun σ H Q ⟨α, F, ρ, S, s, er, p⟩ => ?_
  have p' : Post W (Es σ) (VlX W) α F S H ((fa ρ S).bind fun v S => builtin (.isinst [n]) false [v] S) Q := by
    have e : (consF fa nilF ρ S).bind (fun vs S => builtin (.isinst [n]) false vs S) = (fa ρ S).bind fun v S => builtin (.isinst [n]) false [v] S := by
      unfold consF
      cases fa ρ S <;> rfl
    rw [← e]; exact p
  refine ⟨α, F, ρ, S, s, er, (Post.bind p').imp fun v H1 ⟨α1, F1, x, S1, x1, s1, r1, p1⟩ => ?_⟩
  obtain ⟨ks, hk, p2⟩ := isi_of p1
  obtain ⟨T, ty, kt⟩ := ty_of hK s1 r1 hk
  obtain ⟨U', hU', kb⟩ := kt t n ht
  rw [hU] at hU'
  cases hU'
  exact ⟨v, .ty U, .type T, .type U, _, rfl, .ty U, ty, kit_ty kb, by simpa using p2.here s1 rfl⟩
end
end Z
end

section
set_option maxHeartbeats 1000000
/-! Z11: isinstance with several types, methods, what is walked, comprehensions. -/
namespace Z
open PySem L2

section
variable {X : Cx} {W : Wd} {E : XK} {Es : SX} {a b c e : Expr} {es : List Expr} {pos : Pos} {fa fb fc : Env → Sto → Res Vl}
variable {α : Nat → Addr} {F : Hp} {S : Sto} {H : Hp} {Q : VK} {x y : Vl} {v u : V}

/-- names of types in a display -/
inductive TyNames (X : Cx) : List Expr → List Nat → Prop
  | nil : TyNames X [] []
  | cons {t : Str} {p : Pos} {n : Nat} {ts : List Expr} {ns : List Nat} : cTy t = some n → Gl X t → X.mg t = none → t ≠ "__name__" → (t == ("__debug__" : Str)) = false → TyNames X ts ns → TyNames X (.Name t p :: ts) (n :: ns)
theorem tys_of {ts : List Expr} {ns : List Nat} (h : TyNames X ts ns) : ∃ us : List String, PA X ts (fun σ H Q => Q (us.map V.ty) H) ∧ us.length = ns.length ∧
    ∀ {T : String} {ks : List Nat}, (∀ t n, cTy t = some n → ∃ U, bootBuiltins t = some (.type U) ∧ kitB T U = some (ks.contains n)) → PySem.W.kitAny X.K (.type T) (us.map Value.type) = some (ns.any fun n => ks.contains n) := by
  induction h with
  | nil => exact ⟨[], pa_nil, rfl, fun _ => rfl⟩
  | @cons t p n ts ns ht hg hm hn hd _ ih =>
    obtain ⟨us, h1, h2, h3⟩ := ih
    obtain ⟨U, hU⟩ := cTy_ty ht
    refine ⟨U :: us, ?_, by simp [h2], fun {T ks} k => ?_⟩
    · have pt : PE X (.Name t p) (tC (.ty U)) := pe_bltn hg hm hU rfl hn hd
      exact pa_cons pt h1 rfl
    · obtain ⟨U', hU', kb⟩ := k t n ht
      rw [hU] at hU'
      cases hU'
      rw [List.map_cons, List.any_cons]
      exact kitAny_cons (kit_ty kb) (fun hb => by rw [hb, Bool.false_or]; exact h3 k) fun hb => by rw [hb, Bool.true_or]
theorem tyNames_star {ts : List Expr} {ns : List Nat} (h : TyNames X ts ns) : ts.all notStar = true := by
  induction h with
  | nil => rfl
  | cons _ _ _ _ _ _ ih => rw [List.all_cons, ih]; rfl
theorem clsVs : ∀ us : List String, Paired ClsV (us.map V.ty) (us.map Value.type)
  | [] => .nil
  | u :: us => .cons (.ty u) (clsVs us)
theorem de_isiT (hK : W.K = X.K) {ts : List Expr} {ns : List Nat} {p1 p2 : Pos} {k : Nat} (hts : TyNames X ts ns) (hl : ns.length ≤ 100) (hg : Gl X "isinstance") (hm : X.mg "isinstance" = none)
    (hs : notStar e = true) (he : PE X e (tD W Es fa)) : PE X (.Call (.Name "isinstance" p1) [e, .Tuple ts k p2] [] pos) (tD W Es fun ρ S => (consF fa nilF ρ S).bind fun vs S => builtin (.isinst ns) false vs S) := by
  obtain ⟨us, h1, h2, h3⟩ := tys_of hts
  refine peI (pe_callB call_isiT hg hm boot_isinstance' (pa_cons he (pa_cons (pe_tup h1) pa_nil) (star_cons hs)) (by decide) (by decide) (star_cons hs) rfl) fun σ H Q ⟨α, F, ρ, S, s, er, p⟩ => ?_
  have p' : Post W (Es σ) (VlX W) α F S H ((fa ρ S).bind fun v S => builtin (.isinst ns) false [v] S) Q := by
    have e : (consF fa nilF ρ S).bind (fun vs S => builtin (.isinst ns) false vs S) = (fa ρ S).bind fun v S => builtin (.isinst ns) false [v] S := by
      unfold consF
      cases fa ρ S <;> rfl
    rw [← e]; exact p
  refine ⟨α, F, ρ, S, s, er, (Post.bind p').imp fun v H1 ⟨α1, F1, x, S1, x1, s1, r1, p1⟩ => ?_⟩
  refine ⟨by rw [List.length_map, h2, sizeLine_eq]; omega, fun l hl => ?_⟩
  obtain ⟨ks, hk, p2⟩ := isi_of p1
  obtain ⟨s2, x2⟩ := s1.newF (o := .tup (us.map V.ty)) hl
  obtain ⟨T, ty, kt⟩ := ty_of hK s2 (r1.ext x2) hk
  exact ⟨v, l, us.map V.ty, .type T, us.map Value.type, _, rfl, upd_same, clsVs us, ty, h3 kt, p2 _ α1 _ _ x2 s2 rfl⟩

/-! ### methods -/
theorem append_of (s : Sr W α F S H) (rx : VlR W α F S.length x v) (ry : VlR W α F S.length y u) (p : Post W E (VlX W) α F S H (mAppend x y S) Q) : rAppend v [u] H Q := by
  cases x with
  | d x => exact p.elim
  | p n =>
    obtain ⟨ev, hl⟩ := (show v = .ref (α n) ∧ n < S.length from rx)
    simp only [mAppend] at p
    cases hn : S[n]? with
    | none => rw [hn] at p; exact p.elim
    | some c =>
      rw [hn] at p
      cases c with
      | lst xs =>
        simp only at p
        by_cases hz : xs.length < most
        · rw [if_pos (by simpa using hz)] at p
          obtain ⟨vs, hv, rr⟩ := s.cel n _ hn
          refine ⟨α n, vs, u, ev, rfl, hv, by rw [← rr.length, ← most_eq]; exact hz, ?_⟩
          obtain ⟨s', x'⟩ := s.setC (n := n) (o := .lst (vs ++ [u])) (c := .lst (xs ++ [y])) ⟨_, hn, fun z => nomatch z⟩ ⟨_, upd_same, rr.append (.cons ry .nil)⟩
          exact p _ α F _ x' s' rfl
        · rw [if_neg (by simpa using hz)] at p; exact p.elim
      | _ => exact p.elim
theorem extend_of (s : Sr W α F S H) (rx : VlR W α F S.length x v) (ry : VlR W α F S.length y u) (p : Post W E (VlX W) α F S H (mExtend x y S) Q) : rExtend v [u] H Q := by
  cases x with
  | d x => exact p.elim
  | p n =>
    obtain ⟨ev, hl⟩ := (show v = .ref (α n) ∧ n < S.length from rx)
    simp only [mExtend] at p
    cases hn : S[n]? with
    | none => rw [hn] at p; exact p.elim
    | some c =>
      rw [hn] at p
      cases c with
      | lst xs =>
        simp only at p
        cases ey : listOf y S with
        | none => rw [ey] at p; exact p.elim
        | some ys =>
          rw [ey] at p
          simp only at p
          by_cases hz : xs.length + ys.length ≤ most
          · rw [if_pos (by simpa using hz)] at p
            obtain ⟨vs, hv, rr⟩ := s.cel n _ hn
            obtain ⟨b, us, rfl, q2, r2⟩ := ry.list s ey
            refine ⟨α n, b, vs, us, ev, rfl, hv, q2, by rw [← rr.length, ← r2.length, ← most_eq]; exact hz, ?_⟩
            obtain ⟨s', x'⟩ := s.setC (n := n) (o := .lst (vs ++ us)) (c := .lst (xs ++ ys)) ⟨_, hn, fun z => nomatch z⟩ ⟨_, upd_same, rr.append r2⟩
            exact p _ α F _ x' s' rfl
          · rw [if_neg (by simpa using hz)] at p; exact p.elim
      | _ => exact p.elim
theorem pop_of (s : Sr W α F S H) (rx : VlR W α F S.length x v) (p : Post W E (VlX W) α F S H (mPop x S) Q) : rPop v [] H Q := by
  cases x with
  | d x => exact p.elim
  | p n =>
    obtain ⟨ev, hl⟩ := (show v = .ref (α n) ∧ n < S.length from rx)
    simp only [mPop] at p
    cases hn : S[n]? with
    | none => rw [hn] at p; exact p.elim
    | some c =>
      rw [hn] at p
      cases c with
      | lst xs =>
        simp only at p
        cases e : xs[xs.length - 1]? with
        | none => rw [e] at p; exact p.elim
        | some z =>
          rw [e] at p
          obtain ⟨vs, hv, rr⟩ := s.cel n _ hn
          obtain ⟨w, hw, rw'⟩ := rr.get e
          refine ⟨α n, vs, w, ev, rfl, hv, by rw [← rr.length]; exact hw, ?_⟩
          obtain ⟨s', x'⟩ := s.setC (n := n) (o := .lst vs.dropLast) (c := .lst xs.dropLast) ⟨_, hn, fun z => nomatch z⟩ ⟨_, upd_same, rr.dropLast⟩
          exact p _ α F _ x' s' (rw'.ext x')
      | _ => exact p.elim
abbrev rTx (g : Str → Str → V) : V → List V → Hp → VK → Prop := fun x xs H Q => ∃ a b, x = .str a ∧ xs = [.str b] ∧ Q (g a b) H
theorem tx_of {f : Str → Str → D} {g : Str → Str → V} (h : ∀ F a b, Rp W F (f a b) (g a b)) (s : Sr W α F S H) (rx : VlR W α F S.length x v) (ry : VlR W α F S.length y u) (p : Post W E (VlX W) α F S H (tx1 f x y S) Q) : rTx g v [u] H Q := by
  cases x with
  | p n => exact p.elim
  | d x =>
    cases x with
    | str a =>
      cases y with
      | p n => exact p.elim
      | d y =>
        cases y with
        | str b =>
          cases (show v = V.str ⟨a.toArray⟩ from rx)
          cases (show u = V.str ⟨b.toArray⟩ from ry)
          exact ⟨_, _, rfl, rfl, p.here s (h F _ _)⟩
        | _ => exact p.elim
    | _ => exact p.elim
theorem un_mk (x : Str) : (⟨(un x).toArray⟩ : Str) = x := by unfold un; simp
theorem mk_lens (ts : List Tx) : ((ts.map mk).map fun x => x.length).sum = (ts.map List.length).sum := by
  rw [List.map_map]
  exact congrArg List.sum (List.map_congr_left fun t _ => str_len t)
theorem join_of (hK : W.K = X.K) (s : Sr W α F S H) (rx : VlR W α F S.length x v) (ry : VlR W α F S.length y u) (p : Post W E (VlX W) α F S H (mJoin x y S) Q) :
    ∃ a p, ∃ ys : List Str, v = .str a ∧ [u] = [.ref p] ∧ (SqL X.K H p (ys.map V.str) ∨ SqT X.K H p (ys.map V.str)) ∧ (ys.map (·.length)).sum + ys.length * a.length ≤ 16777216 ∧ Q (.str (Txt.join a ys)) H := by
  cases x with
  | p n => exact p.elim
  | d x =>
    cases x with
    | str sep =>
      cases (show v = V.str ⟨sep.toArray⟩ from rx)
      simp only [mJoin] at p
      cases ex : listOf y S with
      | none => rw [ex] at p; exact p.elim
      | some xs =>
        rw [ex] at p
        simp only at p
        cases px : pures xs with
        | none => rw [px] at p; exact p.elim
        | some ds =>
          rw [px] at p
          simp only at p
          cases hd : textL ds with
          | none => rw [hd] at p; exact p.elim
          | some ts =>
            rw [hd] at p
            simp only at p
            by_cases hz : (ts.map List.length).sum + ts.length * sep.length ≤ most
            · rw [if_pos (by simpa using hz)] at p
              obtain ⟨a, vs, rfl, q1, r1⟩ := ry.list s ex
              have := textL_v hd (r1.pures px)
              subst this
              refine ⟨⟨sep.toArray⟩, a, ts.map mk, rfl, rfl, .inl (.of q1), ?_, ?_⟩
              · rw [mk_lens, List.length_map, str_len]
                exact hz
              · have q := p.here s (w := .str (Txt.join (mk sep) (ts.map mk))) (by show V.str _ = V.str _; rw [un_mk])
                exact q
            · rw [if_neg (by simpa using hz)] at p; exact p.elim
    | _ => exact p.elim
theorem ty_list (hK : W.K = X.K) (s : Sr W α F S H) (rx : VlR W α F S.length x v) (h : (listOf x S).isSome = true) : tyV X.K "list" v H := by
  cases e : listOf x S with
  | none => rw [e] at h; cases h
  | some xs =>
    obtain ⟨a, vs, rfl, q1, r1⟩ := rx.list s e
    exact .inl ⟨rfl, vs, .of q1⟩
theorem ty_str (rx : VlR W α F S.length x v) (h : isStr x = true) : tyV X.K "str" v H := by
  cases x with
  | p n => cases h
  | d x =>
    cases x with
    | str a => cases (show v = V.str ⟨a.toArray⟩ from rx); rfl
    | _ => cases h
/-- what a method of this name is, of one argument -/
structure MtFact (X : Cx) (W : Wd) (m : Str) (b : Bm) (n : Nat) : Prop where
  ex : ∃ (T id : String) (r : V → List V → Hp → VK → Prop), PlainAttrs T ∧ Slot T m id ∧ PySem.typeOf (.builtin id) = pure (.type "method_descriptor") ∧ MtR X id r ∧
    (∀ {α F S H x v}, Sr W α F S H → VlR W α F S.length x v → bmTy b x S = true → tyV X.K T v H) ∧
    ∀ {E : XK} {α F S H x v as us} {Q : VK}, Sr W α F S H → VlR W α F S.length x v → VlRs W α F S.length as us → as.length = n → Post W E (VlX W) α F S H (method b x as S) Q → r v us H Q
/-- index is a list's or a text's -/
def isIdx : Bm → Bool
  | .index => true
  | _ => false
theorem cBm1_cases {x : Str} {b : Bm} (h : cBm1 x = some b) : (x = "append" ∧ b = .append) ∨ (x = "extend" ∧ b = .extend) ∨ (x = "join" ∧ b = .join) ∨ (x = "count" ∧ b = .count) ∨ (x = "rfind" ∧ b = .rfind) ∨ (x = "startswith" ∧ b = .startswith) ∨ (x = "index" ∧ b = .index) := by
  unfold cBm1 at h
  repeat' split at h
  all_goals first
    | (cases h; done)
    | (rename_i hx; have hx := beq_iff_eq.mp hx; cases h; subst hx; simp)
theorem toPys_get : ∀ (ds : List D) (j : Nat), (toPys ds)[j]? = (ds[j]?).map toPy
  | [], j => by simp [toPys]
  | d :: ds, 0 => by simp [toPys]
  | d :: ds, j + 1 => by simp [toPys, toPys_get ds j]
theorem datas_mem {n : Nat} : ∀ {ds : List D}, isDatas n ds = true → ∀ d ∈ ds, isData n d = true
  | [], _, _, h => nomatch h
  | d :: ds, h, e, he => by
    have h : (isData n d && isDatas n ds) = true := by rw [isDatas] at h; exact h
    rw [Bool.and_eq_true] at h
    rcases List.mem_cons.mp he with rfl | he
    · exact h.1
    · exact datas_mem h.2 e he
theorem index_of' (hK : W.K = X.K) (s : Sr W α F S H) (rx : VlR W α F S.length x v) (ry : VlR W α F S.length y u) (p : Post W E (VlX W) α F S H (mIndex x y S) Q) : rIndexD X.K v [u] H Q := by
  unfold mIndex at p
  cases y with
  | p n => split at p <;> first | exact p.elim | (rename_i h; cases h)
  | d y =>
    cases ex : listOf x S with
    | none => rw [ex] at p; exact p.elim
    | some xs =>
      rw [ex] at p
      simp only at p
      cases px : pures xs with
      | none => rw [px] at p; exact p.elim
      | some ds =>
        rw [px] at p
        simp only at p
        by_cases hz : (isData 64 (.lst ds) && isData 64 y) = true
        · rw [if_pos hz] at p
          rw [Bool.and_eq_true] at hz
          cases hj : ds.findIdx? (fun e => eqv e y) with
          | none => rw [hj] at p; exact p.elim
          | some j =>
            rw [hj] at p
            obtain ⟨a, vs, rfl, q1, r1⟩ := rx.list s ex
            have hD : isDatas 63 ds = true := by have := hz.1; rw [isData] at this; exact this
            obtain ⟨hl, hp, hn⟩ := List.findIdx?_eq_some_iff_getElem.mp hj
            refine ⟨a, u, toPy y, toPys ds, j, toPy ds[j], rfl, rfl, .lst (.of q1) (dps_of hK s.sub 63 _ _ hD (r1.pures px)), dp_of hK s.sub 64 _ _ hz.2 ry, shaped_of hz.1, shaped_of hz.2, ?_, ?_, fun m z' hm hz' => ?_, p.here s rfl⟩
            · rw [toPys_get, List.getElem?_eq_getElem hl]; rfl
            · rw [eqv_py 63 64 _ _ (datas_mem hD _ (List.getElem_mem hl)) hz.2]; exact hp
            · have hml : m < ds.length := by omega
              rw [toPys_get, List.getElem?_eq_getElem hml] at hz'
              have hz' : toPy ds[m] = z' := Option.some.inj hz'
              rw [← hz', eqv_py 63 64 _ _ (datas_mem hD _ (List.getElem_mem hml)) hz.2]
              have := hn m hm
              simpa using this
        · rw [if_neg hz] at p
          exact p.elim
theorem bm_rule1 (hK : W.K = X.K) (hu : X.A.units + 100 < cLine) {m : Str} {b : Bm} (h : cBm1 m = some b) (hi : isIdx b = false) : MtFact X W m b 1 := by
  have one : ∀ {as : List Vl} {us : List V} {N : Nat} {α : Nat → Addr} {F : Hp}, VlRs W α F N as us → as.length = 1 → ∃ y u, as = [y] ∧ us = [u] ∧ VlR W α F N y u := fun {as us N α F} r h => by
    match as, h with
    | [y], _ =>
      obtain ⟨u, rfl, q⟩ := r.one
      exact ⟨y, u, rfl, rfl, q⟩
  rcases cBm1_cases h with ⟨rfl, rfl⟩ | ⟨rfl, rfl⟩ | ⟨rfl, rfl⟩ | ⟨rfl, rfl⟩ | ⟨rfl, rfl⟩ | ⟨rfl, rfl⟩ | ⟨rfl, rfl⟩
  · exact ⟨⟨_, _, _, PySem.F.plainAttrs_list, PySem.F.slot_list_append, PySem.F.type_list_append, mt_append, fun s r h => ty_list hK s r h, fun s rx ra hl p => by
      obtain ⟨y, u, rfl, rfl, ry⟩ := one ra hl
      exact append_of s rx ry p⟩⟩
  · exact ⟨⟨_, _, _, PySem.F.plainAttrs_list, PySem.F.slot_list_extend, PySem.F.type_list_extend, mt_extend, fun s r h => ty_list hK s r h, fun s rx ra hl p => by
      obtain ⟨y, u, rfl, rfl, ry⟩ := one ra hl
      exact extend_of s rx ry p⟩⟩
  · exact ⟨⟨_, _, _, PySem.F.plainAttrs_str, PySem.F.slot_str_join, PySem.F.type_str_join, mt_join, fun _ r h => ty_str r h, fun s rx ra hl p => by
      obtain ⟨y, u, rfl, rfl, ry⟩ := one ra hl
      exact join_of hK s rx ry p⟩⟩
  · exact ⟨⟨_, _, _, PySem.F.plainAttrs_str, PySem.F.slot_str_count, PySem.F.type_str_count, mt_count, fun _ r h => ty_str r h, fun s rx ra hl p => by
      obtain ⟨y, u, rfl, rfl, ry⟩ := one ra hl
      exact tx_of (f := fun a b => .int (Txt.count a b)) (g := fun a b => .int (Txt.count a b)) (fun _ _ _ => rfl) s rx ry p⟩⟩
  · exact ⟨⟨_, _, _, PySem.F.plainAttrs_str, PySem.F.slot_str_rfind, PySem.F.type_str_rfind, mt_rfind, fun _ r h => ty_str r h, fun s rx ra hl p => by
      obtain ⟨y, u, rfl, rfl, ry⟩ := one ra hl
      exact tx_of (f := fun a b => .int (Txt.rfind a b)) (g := fun a b => .int (Txt.rfind a b)) (fun _ _ _ => rfl) s rx ry p⟩⟩
  · exact ⟨⟨_, _, _, PySem.F.plainAttrs_str, PySem.F.slot_str_startswith, PySem.F.type_str_startswith, mt_startswith, fun _ r h => ty_str r h, fun s rx ra hl p => by
      obtain ⟨y, u, rfl, rfl, ry⟩ := one ra hl
      exact tx_of (f := fun a b => .bl (Txt.startswith a b)) (g := fun a b => .bl (Txt.startswith a b)) (fun _ _ _ => rfl) s rx ry p⟩⟩
  · cases hi
theorem bm_indexL (hK : W.K = X.K) (hu : X.A.units + 100 < cLine) : MtFact X W "index" .indexL 1 := ⟨⟨_, _, _, PySem.F.plainAttrs_list, PySem.F.slot_list_index, PySem.F.type_list_index, mt_indexD (by omega), fun s r h => ty_list hK s r h, fun {E α F S H x v as us Q} s rx ra hl p => by
      match as, hl with
      | [y], _ =>
        obtain ⟨u, rfl, ry⟩ := ra.one
        exact index_of' hK s rx ry p⟩⟩
theorem sindex_of (s : Sr W α F S H) (rx : VlR W α F S.length x v) (ry : VlR W α F S.length y u) (p : Post W E (VlX W) α F S H (sIndex x y S) Q) : ∃ a b i rest, v = .str a ∧ [u] = [.str b] ∧ Builtin.Str.occurrences a b 0 a.length 1 = i :: rest ∧ Q (.int (i : Nat)) H := by
  unfold sIndex at p
  cases x with
  | p n => exact p.elim
  | d x =>
    cases x with
    | str a =>
      cases y with
      | p n => exact p.elim
      | d y =>
        cases y with
        | str b =>
          simp only at p
          cases ho : Builtin.Str.occurrences (mk a) (mk b) 0 (mk a).length 1 with
          | nil => rw [ho] at p; exact p.elim
          | cons i r =>
            rw [ho] at p
            cases (show v = V.str _ from rx)
            cases (show u = V.str _ from ry)
            exact ⟨mk a, mk b, i, r, rfl, rfl, ho, p.here s rfl⟩
        | _ => exact p.elim
    | _ => exact p.elim
theorem bm_indexS (hK : W.K = X.K) : MtFact X W "index" .indexS 1 := ⟨⟨_, _, _, PySem.F.plainAttrs_str, PySem.F.slot_str_index, PySem.F.type_str_index, mt_sindex, fun _ r h => ty_str r h, fun {E α F S H x v as us Q} s rx ra hl p => by
      match as, hl with
      | [y], _ =>
        obtain ⟨u, rfl, ry⟩ := ra.one
        exact sindex_of s rx ry p⟩⟩
theorem bm_rule0 (hK : W.K = X.K) {m : Str} {b : Bm} (h : cBm0 m = some b) : MtFact X W m b 0 := by
  unfold cBm0 at h
  split at h
  · rename_i hx
    have hx := beq_iff_eq.mp hx
    cases h
    subst hx
    exact ⟨⟨_, _, _, PySem.F.plainAttrs_list, PySem.F.slot_list_pop, PySem.F.type_list_pop, mt_pop, fun s r h => ty_list hK s r h, fun {E α F S H x v as us Q} s rx ra hl p => by
      match as, hl with
      | [], _ =>
        cases ra
        exact pop_of s rx p⟩⟩
  · cases h
def bmF (b : Bm) (fa : Env → Sto → Res Vl) (fs : Env → Sto → Res (List Vl)) : Env → Sto → Res Vl := fun ρ S => (fa ρ S).bind fun x S => if bmTy b x S then (fs ρ S).bind fun vs S => method b x vs S else .bad
theorem attr_base {o : Expr} {f : Str} {env : PySem.Env} {w : Sem Value} (h : noSuper o = true) : attributeBase o f env w = w := by
  cases o with
  | Call g args kws p =>
    cases g <;> first | rfl | skip
    cases args with
    | cons _ _ => rfl
    | nil =>
      cases kws with
      | cons _ _ => rfl
      | nil =>
        rename_i id pp
        have h : (!(id == ("super" : Str))) = true := h
        have h2 : (id != ("super" : Str)) = true := h
        unfold attributeBase
        simp [h2]
  | _ => rfl

theorem de_bm0 (hK : W.K = X.K) {o : Expr} {m : Str} {b : Bm} {apos : Pos} (h : MtFact X W m b 0) (hb : noSuper o = true) (hl : (apos.endLine == pos.line) = true) (ho : PE X o (tD W Es fa)) :
    PE X (.Call (.Attribute o m apos) [] [] pos) (tD W Es (bmF b fa nilF)) := by
  obtain ⟨T, id, r, h1, h2, h3, h4, h5, h6⟩ := h.ex
  refine peI (pe_bm0 h1 h2 h3 h4 ho (attr_base hb) hl) fun σ H Q ⟨α, F, ρ, S, s, er, p⟩ => ⟨α, F, ρ, S, s, er, (Post.bind p).imp fun v H1 ⟨α1, F1, x, S1, x1, s1, r1, p1⟩ => ?_⟩
  dsimp only at p1
  by_cases ht : bmTy b x S1 = true
  · rw [if_pos ht] at p1
    exact ⟨h5 s1 r1 ht, h6 s1 r1 .nil rfl p1⟩
  · rw [if_neg ht] at p1; exact p1.elim
theorem few_of : ∀ {es : List Expr} {env : PySem.Env} {pos : Pos}, es.all notStar = true → (backTo pos (starEach es env)).all (fun x => !x.1) = true
  | [], _, _, _ => rfl
  | e :: es, env, pos, h => by
    rw [List.all_cons, Bool.and_eq_true] at h
    rw [star_cons h.1]
    show (!false && (backTo pos (starEach es env)).all (fun x => !x.1)) = true
    rw [few_of h.2]; rfl
theorem de_bm1 (hK : W.K = X.K) {o : Expr} {m : Str} {b : Bm} {apos : Pos} {fs : Env → Sto → Res (List Vl)} (h : MtFact X W m b 1) (hb : noSuper o = true) (hl : (apos.endLine == pos.line) = true) (hs : notStar e = true) (ho : PE X o (tD W Es fa)) (he : PE X e (tD W Es fb)) :
    PE X (.Call (.Attribute o m apos) [e] [] pos) (tD W Es (bmF b fa (consF fb nilF))) := by
  obtain ⟨T, id, r, h1, h2, h3, h4, h5, h6⟩ := h.ex
  have hfew : ((backTo pos (starEach [e] X.env)).all (fun x => !x.1) && (backToKw pos (keywordEach [] X.env)).all (fun x => x.1.isSome)
      && decide (([e] : List Expr).length + ([] : List Keyword).length + (if ([] : List Keyword).isEmpty then 0 else 1) < 30)) = true := by
    rw [few_of (by simp [hs])]; rfl
  refine peI (pe_bm h1 h2 h3 h4 ho (da_cons hs he da_nil) (attr_base hb) hfew hl (star_cons hs) rfl) fun σ H Q ⟨α, F, ρ, S, s, er, p⟩ => ⟨α, F, ρ, S, s, er, (Post.bind p).imp fun v H1 ⟨α1, F1, x, S1, x1, s1, r1, p1⟩ => ?_⟩
  dsimp only at p1
  by_cases ht : bmTy b x S1 = true
  · rw [if_pos ht] at p1
    refine ⟨h5 s1 r1 ht, α1, F1, ρ, S1, s1, er.ext x1, ?_⟩
    have p2 : Post W (Es σ) (VlX W) α1 F1 S1 H1 ((fb ρ S1).bind fun y S => method b x [y] S) Q := by
      have e : (consF fb nilF ρ S1).bind (fun vs S => method b x vs S) = (fb ρ S1).bind fun y S => method b x [y] S := by
        unfold consF
        cases fb ρ S1 <;> rfl
      rw [← e]; exact p1
    show Post W (Es σ) (VlXs W) α1 F1 S1 H1 ((fb ρ S1).bind fun v S => (nilF ρ S).bind fun vs S => .ok (v :: vs) S) _
    have go := Post.bind (Rel := VlX W) p2
    cases hf : fb ρ S1 with
    | bad => rw [hf] at go; exact go
    | exc ee S' => rw [hf] at go; exact go
    | ok y S2 =>
      rw [hf] at go
      show Post W (Es σ) (VlXs W) α1 F1 S1 H1 (.ok [y] S2) _
      intro us α2 F2 H2 x2 s2 rs
      obtain ⟨u, rfl, ru⟩ := rs.one
      obtain ⟨α3, F3, y', S3, x3, s3, r3, p3⟩ := go u α2 F2 H2 x2 s2 ru
      exact h6 s2 (r1.ext x2) (.cons ru .nil) rfl (by
        rw [hf] at p2
        exact Post.rebase x2 p2)
  · rw [if_neg ht] at p1; exact p1.elim
theorem peOr {t t' : TE} (h : PE X e t) (h' : PE X e t') : PE X e (fun σ H Q => t σ H Q ∨ t' σ H Q) := ⟨fun pins s σ H Q I q => q.elim (h.run pins s σ H Q I) (h'.run pins s σ H Q I)⟩
theorem de_index (hK : W.K = X.K) (hu : X.A.units + 100 < cLine) {o : Expr} {apos : Pos} (hb : noSuper o = true) (hl : (apos.endLine == pos.line) = true) (hs : notStar e = true) (ho : PE X o (tD W Es fa)) (he : PE X e (tD W Es fb)) :
    PE X (.Call (.Attribute o "index" apos) [e] [] pos) (tD W Es (bmF .index fa (consF fb nilF))) := by
  refine peI (peOr (de_bm1 (fs := nilF) hK (bm_indexL hK hu) hb hl hs ho he) (de_bm1 (fs := nilF) hK (bm_indexS hK) hb hl hs ho he)) fun σ H Q ⟨α, F, ρ, S, s, er, p⟩ => ?_
  have p : Post W (Es σ) (VlX W) α F S H ((fa ρ S).bind fun x S => if bmTy .index x S then (consF fb nilF ρ S).bind (fun vs S => method .index x vs S) else .bad) Q := p
  cases hf : fa ρ S with
  | bad => rw [hf] at p; exact p.elim
  | exc ee S' => rw [hf] at p; exact .inl ⟨α, F, ρ, S, s, er, by unfold bmF; rw [hf]; exact p⟩
  | ok x S1 =>
    rw [hf] at p
    have p : Post W (Es σ) (VlX W) α F S H (if bmTy .index x S1 then (consF fb nilF ρ S1).bind (fun vs S => method .index x vs S) else .bad) Q := p
    by_cases hx : isStr x = true
    · refine .inr ⟨α, F, ρ, S, s, er, ?_⟩
      unfold bmF
      rw [hf]
      have e1 : bmTy .index x S1 = true := by show ((listOf x S1).isSome || isStr x) = true; rw [hx, Bool.or_true]
      have e2 : bmTy .indexS x S1 = true := hx
      rw [if_pos e1] at p
      show Post W (Es σ) (VlX W) α F S H (if bmTy .indexS x S1 then (consF fb nilF ρ S1).bind (fun vs S => method .indexS x vs S) else .bad) Q
      rw [if_pos e2]
      have e3 : (fun (vs : List Vl) (S : Sto) => method .indexS x vs S) = fun vs S => method .index x vs S := by
        funext vs S
        match vs with
        | [] => rfl
        | [v] => show sIndex x v S = if isStr x then sIndex x v S else mIndex x v S; rw [if_pos hx]
        | [_, _] => rfl
        | _ :: _ :: _ :: _ => rfl
      rw [e3]; exact p
    · refine .inl ⟨α, F, ρ, S, s, er, ?_⟩
      unfold bmF
      rw [hf]
      have e1 : bmTy .index x S1 = bmTy .indexL x S1 := by show ((listOf x S1).isSome || isStr x) = (listOf x S1).isSome; rw [Bool.eq_false_iff.mpr hx, Bool.or_false]
      rw [e1] at p
      show Post W (Es σ) (VlX W) α F S H (if bmTy .indexL x S1 then (consF fb nilF ρ S1).bind (fun vs S => method .indexL x vs S) else .bad) Q
      have e3 : (fun (vs : List Vl) (S : Sto) => method .indexL x vs S) = fun vs S => method .index x vs S := by
        funext vs S
        match vs with
        | [] => rfl
        | [v] => show mIndex x v S = if isStr x then sIndex x v S else mIndex x v S; rw [if_neg hx]
        | [_, _] => rfl
        | _ :: _ :: _ :: _ => rfl
      rw [e3]; exact p
/-! ### d.get -/
theorem isDct_of (s : Sr W α F S H) (r : VlR W α F S.length x v) (h : isDct x S = true) : ∃ a, v = .ref a ∧ IsD H a := by
  have fin : ∀ {a : Addr} {t : Bool} {ks : List D} {ws : List V}, DctR H a t ks ws → IsD H a := fun hd => by
    rcases hd with ⟨_, kk, _, _, h3⟩ | ⟨_, kk, _, _, h3⟩
    · exact .inl ⟨_, .inl h3⟩
    · exact .inr ⟨_, .inl h3⟩
  cases x with
  | p n =>
    obtain ⟨ev, hl⟩ := (show v = .ref (α n) ∧ n < S.length from r)
    simp only [isDct] at h
    cases hn : S[n]? with
    | none => rw [hn] at h; cases h
    | some c =>
      rw [hn] at h
      cases c with
      | dct t kvs => obtain ⟨ws, hd, rr⟩ := s.cel n _ hn; exact ⟨_, ev, fin hd⟩
      | _ => cases h
  | d x =>
    cases x with
    | dct t ks ds => obtain ⟨a, ws, rfl, hd, rr⟩ := r; exact ⟨a, rfl, fin (hd.mono (s.sub a))⟩
    | _ => cases h
theorem get_of (s : Sr W α F S H) (rx : VlR W α F S.length x v) {k : D} (ry : Rp W F k u) {o : Option Vl} (h : getOf x k S = some o) : ∃ a w, v = .ref a ∧ DGet H a u w ∧ ((o = none ∧ w = none) ∨ ∃ z q, o = some z ∧ w = some q ∧ VlR W α F S.length z q) := by
  cases x with
  | p n =>
    obtain ⟨ev, hl⟩ := (show v = .ref (α n) ∧ n < S.length from rx)
    simp only [getOf] at h
    cases hn : S[n]? with
    | none => rw [hn] at h; cases h
    | some c =>
      rw [hn] at h
      cases c with
      | dct t kvs =>
        simp only at h
        by_cases hk : keyOk t k = true
        · rw [if_pos hk] at h
          cases h
          obtain ⟨ws, hd, rr⟩ := s.cel n _ hn
          have ez : (kvs.map (·.1)).zip (kvs.map (·.2)) = kvs := zip_fs kvs
          rcases dget_of hd (vls_paired rr) hk ry s.sub with ⟨e1, g⟩ | ⟨z, w, e1, hr, g⟩
          · rw [ez] at e1; exact ⟨_, none, ev, g, .inl ⟨e1, rfl⟩⟩
          · rw [ez] at e1; exact ⟨_, some w, ev, g, .inr ⟨z, w, e1, rfl, hr⟩⟩
        · rw [if_neg hk] at h; cases h
      | _ => cases h
  | d x =>
    cases x with
    | dct t ks ds =>
      have h : (if keyOk t k && ks.length == ds.length then some ((kvFind (ks.zip ds) k).map .d) else none) = some o := h
      by_cases hk : (keyOk t k && ks.length == ds.length) = true
      · rw [if_pos hk] at h
        rw [Bool.and_eq_true] at hk
        cases h
        obtain ⟨a, ws, rfl, hd, rr⟩ := rx
        rcases dget_of (hd.mono (s.sub a)) (rps_paired rr) hk.1 ry s.sub with ⟨e1, g⟩ | ⟨z, w, e1, hr, g⟩
        · exact ⟨a, none, rfl, g, .inl ⟨by rw [e1]; rfl, rfl⟩⟩
        · exact ⟨a, some w, rfl, g, .inr ⟨.d z, w, by rw [e1]; rfl, rfl, hr⟩⟩
      · rw [if_neg hk] at h; cases h
    | _ => cases h
theorem mget_of (s : Sr W α F S H) {z : Vl} {q : V} (rx : VlR W α F S.length x v) (ry : VlR W α F S.length y u) (rz : VlR W α F S.length z q) (p : Post W E (VlX W) α F S H (mGet x y z S) Q) : ∃ a o, v = .ref a ∧ DGet H a u o ∧ Q (o.getD q) H := by
  unfold mGet at p
  cases y with
  | p n => exact p.elim
  | d k =>
    dsimp only at p
    cases hg : getOf x k S with
    | none => rw [hg] at p; exact p.elim
    | some o =>
      rw [hg] at p
      obtain ⟨a, w, e, g, h⟩ := get_of s rx ry hg
      rcases h with ⟨rfl, rfl⟩ | ⟨z', q', rfl, rfl, hr⟩
      · exact ⟨a, none, e, g, p.here s rz⟩
      · exact ⟨a, some q', e, g, p.here s hr⟩
theorem bind_step {τ τ' β β' : Type} {r : Res τ} {g : τ → Sto → Res τ'} {Rel : (Nat → Addr) → Hp → Sto → Hp → τ → β → Prop} {Rel' : (Nat → Addr) → Hp → Sto → Hp → τ' → β' → Prop} {Q : β' → Hp → Prop} (p : Post W E Rel' α F S H (r.bind g) Q) : Post W E Rel α F S H r (Mid W E Rel Rel' α F S H g Q) := p.bind
theorem consF1 {g : List Vl → Sto → Res Vl} {ρ : Env} : (consF fb nilF ρ S).bind g = (fb ρ S).bind fun y S => g [y] S := by
  unfold consF
  cases fb ρ S <;> rfl
theorem consF2 {g : List Vl → Sto → Res Vl} {ρ : Env} : (consF fb (consF fc nilF) ρ S).bind g = (fb ρ S).bind fun y S => (fc ρ S).bind fun z S => g [y, z] S := by
  unfold consF
  cases fb ρ S with
  | ok y S1 => simp only [Res.bind]; cases fc ρ S1 <;> rfl
  | _ => rfl
theorem de_get1 (hu : X.A.units + 100 < cLine) {o : Expr} {apos : Pos} (hb : noSuper o = true) (hl : (apos.endLine == pos.line) = true) (hs : notStar e = true) (ho : PE X o (tD W Es fa)) (he : PE X e (tD W Es fb)) :
    PE X (.Call (.Attribute o "get" apos) [e] [] pos) (tD W Es (bmF .get fa (consF fb nilF))) := by
  refine peI (pe_dget1 (by omega) ho he ⟨attr_base hb, by rw [few_of (by simp [hs])]; rfl, hl, by rw [star_cons hs]; rfl⟩) fun σ H Q ⟨α, F, ρ, S, s, er, p⟩ => ⟨α, F, ρ, S, s, er, (Post.bind (Rel := VlX W) p).imp fun v H1 ⟨α1, F1, x, S1, x1, s1, r1, p1⟩ => ?_⟩
  dsimp only at p1
  by_cases ht : bmTy .get x S1 = true
  · rw [if_pos ht] at p1
    obtain ⟨a, e1, hd⟩ := isDct_of s1 r1 ht
    refine ⟨a, e1, hd, α1, F1, ρ, S1, s1, er.ext x1, ?_⟩
    rw [consF1] at p1
    exact (Post.bind (Rel := VlX W) p1).imp fun u H2 ⟨α2, F2, y, S2, x2, s2, r2, p2⟩ => by
      obtain ⟨a', o, e2, g, q⟩ := mget_of s2 (z := .d .non) (q := .non) (r1.ext x2) r2 rfl p2
      rw [e1] at e2
      cases e2
      exact ⟨o, g, q⟩
  · rw [if_neg ht] at p1; exact p1.elim
theorem de_get2 (hu : X.A.units + 100 < cLine) {o e2 : Expr} {apos : Pos} (hb : noSuper o = true) (hl : (apos.endLine == pos.line) = true) (hs : notStar e = true) (hs2 : notStar e2 = true) (ho : PE X o (tD W Es fa)) (he : PE X e (tD W Es fb)) (he2 : PE X e2 (tD W Es fc)) :
    PE X (.Call (.Attribute o "get" apos) [e, e2] [] pos) (tD W Es (bmF .get fa (consF fb (consF fc nilF)))) := by
  refine peI (pe_dget2 (by omega) ho he he2 ⟨attr_base hb, by rw [few_of (by simp [hs, hs2])]; rfl, hl, by rw [star_cons hs, star_cons hs2]; rfl⟩) fun σ H Q ⟨α, F, ρ, S, s, er, p⟩ => ⟨α, F, ρ, S, s, er, (Post.bind (Rel := VlX W) p).imp fun v H1 ⟨α1, F1, x, S1, x1, s1, r1, p1⟩ => ?_⟩
  dsimp only at p1
  by_cases ht : bmTy .get x S1 = true
  · rw [if_pos ht] at p1
    obtain ⟨a, e1, hd⟩ := isDct_of s1 r1 ht
    refine ⟨a, e1, hd, α1, F1, ρ, S1, s1, er.ext x1, ?_⟩
    rw [consF2] at p1
    exact (Post.bind (Rel := VlX W) p1).imp fun u H2 ⟨α2, F2, y, S2, x2, s2, r2, p2⟩ => ⟨α2, F2, ρ, S2, s2, (er.ext x1).ext x2, (Post.bind (Rel := VlX W) p2).imp fun w H3 ⟨α3, F3, z, S3, x3, s3, r3, p3⟩ => by
      obtain ⟨a', o, e2, g, q⟩ := mget_of s3 (r1.ext (x2.trans x3)) (r2.ext x3) r3 p3
      rw [e1] at e2
      cases e2
      exact ⟨o, g, q⟩⟩
  · rw [if_neg ht] at p1; exact p1.elim
end
end Z
end

section
set_option maxHeartbeats 1000000
/-! Z12: what is walked; comprehensions; calls. -/
namespace Z
open PySem L2

/-- an iterator hands out these values, whatever happens meanwhile -/
structure Walk (W : Wd) (J : It) (xs : List Vl) (α : Nat → Addr) (F : Hp) (S : Sto) (H : Hp) : Prop where
  turn : ∀ (i : Nat) (x : Vl), xs[i]? = some x → ∀ α' F' S' H', Ext α F S H α' F' S' H' → Sr W α' F' S' H' →
    J.go i H' ∧ ∀ v H2, J.yld i H' v H2 → ∃ F2, Ext α' F' S' H' α' F2 S' H2 ∧ Sr W α' F2 S' H2 ∧ VlR W α' F2 S'.length x v
  done : ∀ α' F' S' H', Ext α F S H α' F' S' H' → Sr W α' F' S' H' → J.stop xs.length H'

/-- the items of what is walked, and an iterator for them -/
def WalkR (W : Wd) : (Nat → Addr) → Hp → Sto → Hp → List Vl × Option (Nat × Cell) → It → Prop := fun α F S H q J => Walk W J q.1 α F (lock S q.2) H ∧ ∀ n c, q.2 = some (n, c) → S[n]? = some c ∧ c ≠ .dead
def tDI (W : Wd) (Es : SX) (f : Env → Sto → Res (List Vl × Option (Nat × Cell))) : TI := fun σ H R => ∃ α F ρ S, Sr W α F S H ∧ EnvR W α F S.length ρ σ ∧ Post W (Es σ) (WalkR W) α F S H (f ρ S) R
theorem piI {X : Cx} {tg it : Expr} {t t' : TI} (h : PI X tg it t) (k : ∀ σ H R, t' σ H R → t σ H R) : PI X tg it t' := ⟨fun pins s σ H R I q => h.run pins s σ H R I (k σ H R q)⟩
theorem piOr {X : Cx} {tg it : Expr} {t t' : TI} (h : PI X tg it t) (h' : PI X tg it t') : PI X tg it (fun σ H R => t σ H R ∨ t' σ H R) := ⟨fun pins s σ H R I q => q.elim (h.run pins s σ H R I) (h'.run pins s σ H R I)⟩

section
variable {X : Cx} {W : Wd} {E : XK} {Es : SX} {a b c e tg : Expr} {es : List Expr} {pos : Pos} {fa fb fc : Env → Sto → Res Vl} {fs : Env → Sto → Res (List Vl)}
variable {α : Nat → Addr} {F : Hp} {S : Sto} {H : Hp} {Q : VK} {x y : Vl} {v u : V}

/-- the state behind a lock -/
theorem lock_sr (s : Sr W α F S H) {lk : Option (Nat × Cell)} (hk : ∀ n c, lk = some (n, c) → S[n]? = some c) : Sr W α F (lock S lk) H := by
  cases lk with
  | none => exact s
  | some q => exact s.lock (hk q.1 q.2 rfl)
theorem lock_ok {k : Ik} {vs xs : List Vl} {lk : Option (Nat × Cell)} (h : walked k vs S = some (xs, lk)) : ∀ n c, lk = some (n, c) → S[n]? = some c ∧ c ≠ .dead := by
  have key : ∀ v n c, lockOf v S = some (n, c) → S[n]? = some c := fun v n c h => by
    cases v with
    | d x => cases h
    | p m =>
      simp only [lockOf] at h
      cases e : S[m]? with
      | none => rw [e] at h; cases h
      | some c' => rw [e] at h; cases h; exact e
  have lst : ∀ {v : Vl} {ys : List Vl}, (seqOf v S = some ys ∨ listOf v S = some ys) → ∀ n c, lockOf v S = some (n, c) → S[n]? = some c ∧ c ≠ .dead := fun {v ys} h n c hl => by
    refine ⟨key v n c hl, fun e => ?_⟩
    subst e
    cases v with
    | d x => cases hl
    | p m =>
      have hm := key (.p m) n .dead hl
      simp only [lockOf] at hl
      cases e : S[m]? with
      | none => rw [e] at hl; cases hl
      | some c' =>
        rw [e] at hl
        cases hl
        rcases h with h | h
        · simp [seqOf, e] at h
        · simp [listOf, e] at h
  match vs, h with
  | [v], h =>
    cases k with
    | seq =>
      by_cases hs : ∃ z, v = .d (.str z)
      · obtain ⟨z, rfl⟩ := hs
        simp [walked] at h
        rw [← h.2]
        exact fun n c z => nomatch z
      · have e : walked .seq [v] S = (seqOf v S).map fun xs => (xs, lockOf v S) := by
          cases v with
          | p n => rfl
          | d x => cases x <;> first | rfl | exact absurd ⟨_, rfl⟩ hs
        rw [e] at h
        cases q : seqOf v S with
        | none => rw [q] at h; cases h
        | some ys => rw [q] at h; cases h; exact lst (.inl q)
    | range =>
      cases v with
      | p n => simp [walked] at h
      | d x =>
        cases x <;> simp [walked] at h
        rw [← h.2.2]
        exact fun n c z => nomatch z
    | rev =>
      simp only [walked] at h
      cases q : listOf v S with
      | none => rw [q] at h; cases h
      | some ys => rw [q] at h; cases h; exact lst (.inr q)
    | enum =>
      simp only [walked] at h
      cases q : listOf v S with
      | none => rw [q] at h; cases h
      | some ys =>
        rw [q] at h
        simp only at h
        cases q2 : pures ys with
        | none => rw [q2] at h; cases h
        | some ds => rw [q2] at h; cases h; exact lst (.inr q)
    | zip => simp [walked] at h
    | items => simp [walked] at h
  | [], h => simp [walked] at h
  | [u, v], h =>
    cases k with
    | range =>
      simp only [walked] at h
      cases q : rng2 u v with
      | none => rw [q] at h; cases h
      | some ys => rw [q] at h; cases h; exact fun n c z => nomatch z
    | _ => simp [walked] at h
  | _ :: _ :: _ :: _, h => simp [walked] at h
theorem lock_len (S : Sto) (lk : Option (Nat × Cell)) : (lock S lk).length = S.length := by
  cases lk <;> simp [lock]
/-- items that don't hang on the heap -/
theorem walk_const {J : It} {xs : List Vl} {vs : List V} (hl : xs.length = vs.length) (hgo : ∀ i H', i < xs.length → J.go i H') (hstop : ∀ H', J.stop xs.length H') (hy : ∀ i H' v H2, i < xs.length → J.yld i H' v H2 → H2 = H' ∧ vs[i]? = some v)
    (hv : ∀ (i : Nat) (x : Vl) (v : V), xs[i]? = some x → vs[i]? = some v → ∀ α' F' N, VlR W α' F' N x v) : Walk W J xs α F S H where
  turn := fun i x hx α' F' S' H' e s => by
    have hi : i < xs.length := (List.getElem?_eq_some_iff.mp hx).1
    refine ⟨hgo i H' hi, fun v H2 y => ?_⟩
    obtain ⟨rfl, q⟩ := hy i H' v H2 hi y
    exact ⟨F', Ext.refl, s, hv i x v hx q _ _ _⟩
  done := fun α' F' S' H' e s => hstop H'
theorem walk_rng {lo : Int} {n : Nat} {xs : List Vl} (hx : xs = (List.range n).map fun (i : Nat) => .d (.int (lo + (i : Int)))) : Walk W (Itr lo n) xs α F S H := by
  subst hx
  refine walk_const (vs := (List.range n).map fun (i : Nat) => .int (lo + (i : Int))) (by simp) (fun i _ h => by show i < n; simpa using h) (fun _ => by show n ≤ _; simp) (fun i H' v H2 hi y => ?_) fun i x v hx hv _ _ _ => ?_
  · obtain ⟨e1, e2⟩ := y
    have hi : i < n := by simpa using hi
    subst e2
    exact ⟨e1, by simp [hi]⟩
  · have hi : i < n := by
      have := (List.getElem?_eq_some_iff.mp hx).1
      simpa using this
    simp [hi] at hx hv
    subst hx hv
    rfl
/-- what is read at an address that stays -/
def StaysL (W : Wd) (α : Nat → Addr) (F : Hp) (S : Sto) (H : Hp) (a : Addr) (vs : List V) : Prop := ∀ α' F' S' H', Ext α F S H α' F' S' H' → Sr W α' F' S' H' → SqL W.K H' a vs
theorem stays_of (s : Sr W α F S H) {xs : List Vl} (r : VlR W α F S.length x v) (h : listOf x S = some xs) {lk : Option (Nat × Cell)} (hlk : lk = lockOf x S) :
    ∃ a vs, v = .ref a ∧ VlRs W α F S.length xs vs ∧ H a = some (.lst vs) ∧ StaysL W α F (lock S lk) H a vs := by
  cases x with
  | d d =>
    subst hlk
    cases d <;> simp [listOf] at h
    subst h
    obtain ⟨a, vs, rfl, q, rr⟩ := (show Rp W F _ _ from r)
    exact ⟨a, vs, rfl, .of_pure rr, s.sub _ _ q, fun α' F' S' H' e s' => .of (s'.sub _ _ (e.fr _ _ q))⟩
  | p n =>
    obtain ⟨rfl, hl⟩ := (show v = .ref (α n) ∧ n < S.length from r)
    simp only [listOf] at h
    cases hn : S[n]? with
    | none => rw [hn] at h; cases h
    | some c =>
      rw [hn] at h
      cases c <;> simp at h
      rename_i ys
      subst h
      simp only [lockOf, hn, Option.map_some] at hlk
      subst hlk
      obtain ⟨vs, hv, rr⟩ := s.cel n _ hn
      refine ⟨α n, vs, rfl, rr, hv, fun α' F' S' H' e s' => .of (e.frame _ _ hv fun m lm z => ?_)⟩
      -- no live cell of the locked state stands there
      obtain ⟨c, q, hc⟩ := lm
      have q : (S.set n .dead)[m]? = some c := q
      by_cases em : n = m
      · subst em
        rw [List.getElem?_set_self hl] at q
        exact hc (Option.some.inj q).symm
      · rw [List.getElem?_set_ne em] at q
        exact em (s.inj m n ⟨c, q, hc⟩ ⟨_, hn, fun z => nomatch z⟩ z).symm
theorem walk_list {a : Addr} {vs : List V} {xs : List Vl} {lk : Option (Nat × Cell)} (hK : W.K = X.K) (r : VlRs W α F S.length xs vs) (st : StaysL W α F (lock S lk) H a vs) : Walk W (Itl X.K a) xs α F (lock S lk) H where
  turn := fun i x hx α' F' S' H' e s => by
    obtain ⟨v, hv, rv⟩ := r.get hx
    have q := st α' F' S' H' e s
    rw [hK] at q
    refine ⟨⟨vs, v, q, hv⟩, fun v' H2 y => ?_⟩
    obtain ⟨e1, e2⟩ := y
    subst e1
    have := e2 vs q
    rw [hv] at this
    cases this
    exact ⟨F', Ext.refl, s, by rw [← lock_len S lk] at rv; exact rv.ext e⟩
  done := fun α' F' S' H' e s => by
    have q := st α' F' S' H' e s
    rw [hK] at q
    exact ⟨vs, q, by rw [r.length]; exact Nat.le_refl _⟩
theorem walk_rev {a : Addr} {vs : List V} {xs : List Vl} {lk : Option (Nat × Cell)} (hK : W.K = X.K) (r : VlRs W α F S.length xs vs) (st : StaysL W α F (lock S lk) H a vs) : Walk W (Itv X.K a vs.length) xs.reverse α F (lock S lk) H where
  turn := fun i x hx α' F' S' H' e s => by
    obtain ⟨v, hv, rv⟩ := r.reverse.get hx
    have hi : i < vs.length := by
      have := (List.getElem?_eq_some_iff.mp hv).1
      simpa using this
    have q := st α' F' S' H' e s
    rw [hK] at q
    have hv' : vs[vs.length - 1 - i]? = some v := by
      rw [List.getElem?_reverse hi] at hv
      exact hv
    refine ⟨⟨hi, vs, v, q, hv'⟩, fun v' H2 y => ?_⟩
    obtain ⟨e1, e2⟩ := y
    subst e1
    have := e2 vs q
    rw [hv'] at this
    cases this
    exact ⟨F', Ext.refl, s, by rw [← lock_len S lk] at rv; exact rv.ext e⟩
  done := fun α' F' S' H' e s => by
    show vs.length ≤ xs.reverse.length
    rw [List.length_reverse, r.length]
    exact Nat.le_refl _
theorem walk_tup {a : Addr} {vs : List V} {xs : List Vl} {lk : Option (Nat × Cell)} (hK : W.K = X.K) (r : VlRs W α F S.length xs vs) (q : SqT W.K F a vs) : Walk W (Itt X.K a) xs α F (lock S lk) H where
  turn := fun i x hx α' F' S' H' e s => by
    obtain ⟨v, hv, rv⟩ := r.get hx
    have q := s.sub.sqT (e.fr.sqT q)
    rw [hK] at q
    refine ⟨⟨vs, v, q, hv⟩, fun v' H2 y => ?_⟩
    obtain ⟨e1, e2⟩ := y
    subst e1
    have := e2 vs q
    rw [hv] at this
    cases this
    exact ⟨F', Ext.refl, s, by rw [← lock_len S lk] at rv; exact rv.ext e⟩
  done := fun α' F' S' H' e s => by
    have q := s.sub.sqT (e.fr.sqT q)
    rw [hK] at q
    exact ⟨vs, q, by rw [r.length]; exact Nat.le_refl _⟩
theorem walk_str (z : Tx) : Walk W (Its ⟨z.toArray⟩) (z.map fun c => .d (.str [c])) α F S H := by
  refine walk_const (vs := z.map fun c => .str ⟨#[c]⟩) (by simp) (fun i _ h => by show i < z.toArray.size; simpa using h) (fun _ => by show z.toArray.size ≤ _; simp) (fun i H' v H2 hi y => ?_) fun i x v hx hv _ _ _ => ?_
  · obtain ⟨e1, c, hc, e2⟩ := y
    subst e2
    refine ⟨e1, ?_⟩
    have hc : z[i]? = some c := by simpa using hc
    simp [hc]
  · rw [List.getElem?_map] at hx hv
    cases hz : z[i]? with
    | none => rw [hz] at hx; cases hx
    | some c =>
      rw [hz] at hx hv
      cases hx
      cases hv
      rfl
theorem walk_enum {a : Addr} {ds : List D} {vs : List V} {lk : Option (Nat × Cell)} (hK : W.K = X.K) (r : Rps W F ds vs) (st : StaysL W α F (lock S lk) H a vs) :
    Walk W (Ite X.K a) (((List.range ds.length).zip ds).map fun p => .d (.tup [.int (p.1 : Int), p.2])) α F (lock S lk) H where
  turn := fun i x hx α' F' S' H' e s => by
    rw [List.getElem?_map] at hx
    cases hz : ((List.range ds.length).zip ds)[i]? with
    | none => rw [hz] at hx; cases hx
    | some p =>
      rw [hz] at hx
      cases hx
      obtain ⟨h1, h2⟩ := List.getElem?_zip_eq_some.mp hz
      have hi : i < ds.length := (List.getElem?_eq_some_iff.mp h2).1
      rw [List.getElem?_range hi] at h1
      have h1 : i = p.1 := Option.some.inj h1
      obtain ⟨w, hw, rw'⟩ := r.get h2
      have q := st α' F' S' H' e s
      rw [hK] at q
      refine ⟨⟨vs, w, q, hw⟩, fun v' H2 y => ?_⟩
      obtain ⟨T, w', rfl, hT, rfl, e2⟩ := y
      have := e2 vs q
      rw [hw] at this
      cases this
      obtain ⟨s', x'⟩ := s.newF (o := .tup [.int (i : Nat), w]) hT
      refine ⟨_, x', s', T, [.int (i : Nat), w], rfl, upd_same, .int (i : Int), [w], rfl, by rw [h1]; rfl, w, [], rfl, ?_, rfl⟩
      exact Rp.mono (e.fr.trans x'.fr) rw'
  done := fun α' F' S' H' e s => by
    have q := st α' F' S' H' e s
    rw [hK] at q
    exact ⟨vs, q, by simp [r.length]⟩

/-! ### the forms -/
theorem evs1 {ρ : Env} {τ : Type} {g : List Vl → Sto → Res τ} : (consF fa nilF ρ S).bind g = (fa ρ S).bind fun v S => g [v] S := by
  unfold consF
  cases fa ρ S <;> rfl
theorem res_cases {τ : Type} (r : Res τ) : (∃ a S, r = .ok a S) ∨ (∃ e S, r = .exc e S) ∨ r = .bad := by
  cases r
  · exact .inl ⟨_, _, rfl⟩
  · exact .inr (.inl ⟨_, _, rfl⟩)
  · exact .inr (.inr rfl)
theorem pi_any {t : TE} (hl : PE X e t) : PI X tg e (fun σ H R => t σ H fun x H1 => (∃ a, x = .ref a ∧ (∃ xs, SqL X.K H1 a xs) ∧ R (Itl X.K a) H1) ∨ (∃ a, x = .ref a ∧ (∃ xs, SqT X.K H1 a xs) ∧ R (Itt X.K a) H1) ∨ ∃ z, x = .str z ∧ R (Its z) H1) := by
  refine ⟨fun pins s σ H R I h => ?_⟩
  refine thn (hl.run pins s σ H _ I h) fun v s1 ⟨x, H1, I1, r1, q1⟩ => ?_
  rcases q1 with ⟨a, e, ⟨xs, hq⟩, q⟩ | ⟨a, e, ⟨xs, hq⟩, q⟩ | ⟨z, e, q⟩
  · subst e
    cases r1
    obtain ⟨its, rv, p, hz⟩ := I1.list hq
    refine wpAny_pyIter_list p.isList ?_
    refine ⟨s1.heap.objs.size, [s1.heap.objs.size], _, _, H1, rfl, I1.kept (t' := s1.toks) fun b o e => Heap.get?_push_of_some _ e, turn_list a _, ⟨_, Heap.get?_push_size _ rfl, rfl, rfl⟩, fun b hb => ?_, q⟩
    have e : b = s1.heap.objs.size := by simpa using hb
    subst e
    exact I1.fpOk (Nat.le_refl _) (I1.hok.fresh (Nat.le_refl _))
  · subst e
    cases r1
    obtain ⟨its, rv, p, hz⟩ := I1.tuple hq
    refine wpAny_pyIter_tuple (show s1.heap.IsTuple a its.toArray from p) ?_
    refine ⟨s1.heap.objs.size, [s1.heap.objs.size], _, _, H1, rfl, I1.kept (t' := s1.toks) fun b o e => Heap.get?_push_of_some _ e, turn_tuple a _, ⟨_, Heap.get?_push_size _ rfl, rfl, rfl⟩, fun b hb => ?_, q⟩
    have e : b = s1.heap.objs.size := by simpa using hb
    subst e
    exact I1.fpOk (Nat.le_refl _) (I1.hok.fresh (Nat.le_refl _))
  · subst e
    obtain ⟨t, rfl⟩ := r1
    cases ha : z.cps.all (· < 128)
    · exact wpAny_pyIter_wide ha (pi_one (tk := s1.toks) I1 _ (turn_str _ z t "str_iterator" (.inr rfl)) ⟨_, Heap.get?_push_size _ rfl, rfl, rfl⟩ q)
    · exact wpAny_pyIter_ascii ha (pi_one (tk := s1.toks) I1 _ (turn_str _ z t "str_ascii_iterator" (.inl rfl)) ⟨_, Heap.get?_push_size _ rfl, rfl, rfl⟩ q)
/-- one value, then what is walked of it -/
theorem di_one {t : TE} {k : Ik} {wi : V → Hp → (It → Hp → Prop) → Prop} (h : PI X tg c (fun σ H R => tD W Es fa σ H fun v H1 => wi v H1 R))
    (go : ∀ {α F S H x v xs lk} {R : It → Hp → Prop}, Sr W α F S H → VlR W α F S.length x v → walked k [x] S = some (xs, lk) → (∀ J, Walk W J xs α F (lock S lk) H → R J H) → wi v H R) :
    PI X tg c (tDI W Es fun ρ S => (consF fa nilF ρ S).bind (walkF k)) := by
  refine piI h fun σ H R ⟨α, F, ρ, S, s, er, p⟩ => ⟨α, F, ρ, S, s, er, ?_⟩
  dsimp only at p
  rw [evs1] at p
  refine (Post.bind (Rel := VlX W) p).imp fun v H1 ⟨α1, F1, x, S1, x1, s1, r1, p1⟩ => ?_
  unfold walkF at p1
  dsimp only at p1
  cases hw : walked k [x] S1 with
  | none => rw [hw] at p1; exact p1.elim
  | some q =>
    rw [hw] at p1
    obtain ⟨xs, lk⟩ := q
    exact go s1 r1 hw fun J hJ => p1.here s1 ⟨hJ, lock_ok hw⟩
theorem di_seq (hK : W.K = X.K) (he : PE X e (tD W Es fa)) : PI X tg e (tDI W Es fun ρ S => (consF fa nilF ρ S).bind (walkF .seq)) := by
  refine di_one (t := tD W Es fa) (pi_any he) fun {α F S H x v xs lk R} s r hw k => ?_
  cases hq : seqOf x S with
  | none =>
    cases x with
    | p n => simp [walked, hq] at hw
    | d x =>
      cases x with
      | str z =>
        simp [walked] at hw
        obtain ⟨rfl, rfl⟩ := hw
        exact .inr (.inr ⟨⟨z.toArray⟩, r, k _ (walk_str z)⟩)
      | _ => simp [walked, hq] at hw
  | some ys =>
    have e : walked .seq [x] S = some (ys, lockOf x S) := by
      cases x with
      | p n => simp [walked, hq]
      | d x => cases x <;> first | (simp [seqOf] at hq; done) | simp [walked, hq]
    rw [e] at hw
    have hw := Option.some.inj hw
    obtain ⟨h1, h2⟩ := Prod.mk.inj hw
    subst h1 h2
    cases hl : listOf x S with
    | some zs =>
      obtain ⟨a, vs, rfl, rr, hv, st⟩ := stays_of s r hl rfl
      have : zs = ys := by
        cases x with
        | p n => 
          simp only [listOf, seqOf] at hl hq
          rw [hl] at hq
          exact Option.some.inj hq
        | d x => cases x <;> simp [listOf] at hl <;> simp [seqOf] at hq <;> rw [← hl, ← hq]
      subst this
      exact .inl ⟨a, rfl, ⟨vs, .of hv⟩, k _ (walk_list hK rr st)⟩
    | none =>
      cases x with
      | p n =>
        simp only [listOf, seqOf] at hl hq
        rw [hl] at hq
        cases hq
      | d x =>
        cases x with
        | tup ds =>
          simp [seqOf] at hq
          subst hq
          obtain ⟨a, vs, rfl, q, rr⟩ := (show Rp W F (.tup ds) v from r)
          exact .inr (.inl ⟨a, rfl, ⟨vs, by rw [← hK]; exact s.sub.sqT (.of q)⟩, k _ (walk_tup (lk := none) hK (.of_pure rr) (.of q))⟩)
        | scr ns =>
          simp [seqOf] at hq
          subst hq
          obtain ⟨a, rfl, q⟩ := (show Rp W F (.scr ns) v from r)
          refine .inl ⟨a, rfl, ⟨_, by rw [← hK]; exact s.sub.sqL q⟩, k _ (walk_list (lk := none) (vs := ns.map V.int) hK ?_ fun α' F' S' H' e s' => s'.sub.sqL (e.fr.sqL q))⟩
          have : VlRs W α F S.length ((ns.map D.int).map .d) (ns.map V.int) := .of_pure (ints_rps ns)
          rw [List.map_map] at this
          exact this
        | _ => simp [seqOf] at hq <;> simp [listOf] at hl
theorem di_rng1 (hg : Gl X "range") (hm : X.mg "range" = none) (hs : notStar a = true) {p1 : Pos} (ha : PE X a (tD W Es fa)) : PI X tg (.Call (.Name "range" p1) [a] [] pos) (tDI W Es fun ρ S => (consF fa nilF ρ S).bind (walkF .range)) := by
  refine di_one (t := tD W Es fa) (wi := fun v H1 R => ∃ j : Int, [v] = [.int j] ∧ -(2 ^ 62) ≤ j ∧ j < 2 ^ 62 ∧ R (Itr 0 j.toNat) H1) (pi_range1 hg hm (pa_cons ha pa_nil (star_cons hs)) (star_cons hs)) fun {α F S H x v xs lk R} s r hw k => ?_
  cases x with
  | p n => simp [walked] at hw
  | d x =>
    cases x with
    | int n =>
      have hw : (if decide (-(2 ^ 62) ≤ n) && decide (n < 2 ^ 62) then some ((List.range n.toNat).map fun (i : Nat) => Vl.d (.int (i : Int)), none) else none) = some (xs, lk) := hw
      by_cases hz : (decide (-(2 ^ 62) ≤ n) && decide (n < 2 ^ 62)) = true
      · rw [if_pos hz] at hw
        cases hw
        rw [Bool.and_eq_true] at hz
        cases (show v = V.int n from r)
        exact ⟨n, rfl, of_decide_eq_true hz.1, of_decide_eq_true hz.2, k _ (walk_rng (by simp))⟩
      · rw [if_neg hz] at hw; cases hw
    | _ => simp [walked] at hw
theorem di_rng2 (hg : Gl X "range") (hm : X.mg "range" = none) (hs : notStar a = true) (hs2 : notStar b = true) {p1 : Pos} (ha : PE X a (tD W Es fa)) (hb : PE X b (tD W Es fb)) : PI X tg (.Call (.Name "range" p1) [a, b] [] pos) (tDI W Es fun ρ S => (consF fa (consF fb nilF) ρ S).bind (walkF .range)) := by
  refine piI (pi_range2 hg hm (da_cons hs ha (da_cons hs2 hb da_nil)) (by rw [star_cons hs, star_cons hs2]; rfl) (by rw [star_cons hs2]; rfl)) fun σ H R ⟨α, F, ρ, S, s, er, p⟩ => ?_
  have p : Post W (Es σ) (WalkR W) α F S H ((consF fa (consF fb nilF) ρ S).bind (walkF .range)) R := p
  refine ⟨α, F, ρ, S, s, er, ?_⟩
  cases hr : consF fa (consF fb nilF) ρ S with
  | bad => rw [hr] at p; exact p.elim
  | exc e S' => rw [hr] at p; exact p
  | ok xs S1 =>
    have hl : ∃ x y, xs = [x, y] := by
      unfold consF at hr
      cases h1 : fa ρ S with
      | bad => rw [h1] at hr; cases hr
      | exc e S' => rw [h1] at hr; cases hr
      | ok x S2 =>
        rw [h1] at hr
        simp only [Res.bind, nilF] at hr
        cases h2 : fb ρ S2 with
        | bad => rw [h2] at hr; cases hr
        | exc e S' => rw [h2] at hr; cases hr
        | ok y S3 =>
          rw [h2] at hr
          cases hr
          exact ⟨x, y, rfl⟩
    obtain ⟨x, y, rfl⟩ := hl
    rw [hr] at p
    intro vs α1 F1 H1 x1 s1 r1
    have p1 : Post W (Es σ) (WalkR W) α F S H (walkF .range [x, y] S1) R := p
    unfold walkF at p1
    cases hw : rng2 x y with
    | none => simp [walked, hw] at p1; exact p1.elim
    | some zs =>
      simp only [walked, hw, Option.map_some] at p1
      cases r1 with
      | cons ra rb =>
        cases rb with
        | cons rb rc =>
          cases rc
          cases x with
          | p n => simp [rng2] at hw
          | d x =>
            cases x with
            | int i =>
              cases y with
              | p n => simp [rng2] at hw
              | d y =>
                cases y with
                | int j =>
                  have hw : (if inRng i && inRng j then some (rngs i j) else none) = some zs := hw
                  by_cases hz : (inRng i && inRng j) = true
                  · rw [if_pos hz] at hw
                    cases hw
                    simp only [inRng, Bool.and_eq_true, decide_eq_true_eq] at hz
                    rename_i va vb
                    cases (show va = V.int i from ra)
                    cases (show vb = V.int j from rb)
                    exact ⟨i, j, rfl, ⟨hz.1.1, hz.1.2, hz.2.1, hz.2.2⟩, p1 _ α1 F1 H1 x1 s1 ⟨walk_rng rfl, fun n c z => nomatch z⟩⟩
                  · rw [if_neg hz] at hw; cases hw
                | _ => simp [rng2] at hw
            | _ => simp [rng2] at hw
theorem di_rev (hK : W.K = X.K) (hg : Gl X "reversed") (hm : X.mg "reversed" = none) (hs : notStar a = true) {p1 : Pos} (ha : PE X a (tD W Es fa)) : PI X tg (.Call (.Name "reversed" p1) [a] [] pos) (tDI W Es fun ρ S => (consF fa nilF ρ S).bind (walkF .rev)) := by
  refine di_one (t := tD W Es fa) (wi := fun v H1 R => ∃ (a : Addr) (xs : List V), [v] = [.ref a] ∧ SqL X.K H1 a xs ∧ R (Itv X.K a xs.length) H1) (pi_reversed hg hm (pa_cons ha pa_nil (star_cons hs)) (star_cons hs)) fun {α F S H x v xs lk R} s r hw k => ?_
  cases hl : listOf x S with
  | none => simp [walked, hl] at hw
  | some ys =>
    simp [walked, hl] at hw
    obtain ⟨rfl, rfl⟩ := hw
    obtain ⟨a, vs, rfl, rr, hv, st⟩ := stays_of s r hl rfl
    exact ⟨a, vs, rfl, .of hv, k _ (walk_rev hK rr st)⟩
theorem di_enum {elts : List Expr} {kk : Nat} {tpos : Pos} (hK : W.K = X.K) (hg : Gl X "enumerate") (hm : X.mg "enumerate" = none) (hs : notStar a = true) {p1 : Pos} (ha : PE X a (tD W Es fa)) :
    PI X (.Tuple elts kk tpos) (.Call (.Name "enumerate" p1) [a] [] pos) (tDI W Es fun ρ S => (consF fa nilF ρ S).bind (walkF .enum)) := by
  refine di_one (t := tD W Es fa) (wi := fun v H1 R => ∃ (a : Addr) (xs : List V), [v] = [.ref a] ∧ SqL X.K H1 a xs ∧ R (Ite X.K a) H1) (pi_enum hg hm (pa_cons ha pa_nil (star_cons hs)) (star_cons hs)) fun {α F S H x v xs lk R} s r hw k => ?_
  cases hl : listOf x S with
  | none => simp [walked, hl] at hw
  | some ys =>
    cases hp : pures ys with
    | none => simp [walked, hl, hp] at hw
    | some ds =>
      simp [walked, hl, hp] at hw
      obtain ⟨rfl, rfl⟩ := hw
      obtain ⟨a, vs, rfl, rr, hv, st⟩ := stays_of s r hl rfl
      exact ⟨a, vs, rfl, .of hv, k _ (walk_enum hK (rr.pures hp) st)⟩
end
end Z
end

section
set_option maxRecDepth 100000
set_option maxHeartbeats 2000000
/-! G1: defs whose callers show nothing (no guard of a shown list lies above): promise, body, call, making, the law's call. -/
namespace Z
open PySem PySem.Spec PyProof.Rows L2

/-- room, and nothing is being shown -/
structure RoomG (k : Nat) (A : Around) : Prop where
  rm : Room k A
  gs : A.guards = some []
theorem RoomG.low {j k : Nat} {A : Around} (g : RoomG k A) (le : j ≤ k) : RoomG j A := ⟨g.rm.mono le, g.gs⟩
/-- .. with a little more room, inside a def's body -/
structure RoomB (k : Nat) (A : Around) : Prop extends RoomG k A where
  sl : A.units + 16 * k + 210 < cLine
theorem RoomG.inner {k : Nat} {A : Around} (g : RoomG (k + 1) A) (v : PySem.Env) : RoomB k (A.deeper v) := ⟨⟨g.rm.deeper v, g.gs⟩, by have := g.rm.un; show A.units + 3 + 16 * k + 210 < cLine; omega⟩
theorem RoomB.two {k : Nat} {A : Around} (g : RoomB k A) : RoomG k A.in1.in1 := ⟨⟨g.rm.hd, g.rm.dp, by have := g.sl; show A.units + 1 + 1 + 16 * k + 200 < cLine; omega⟩, g.gs⟩
theorem RoomG.one {k : Nat} {A : Around} (g : RoomG (k + 1) A) : RoomG k A.in1 := ⟨g.rm.in1, g.gs⟩
theorem RoomG.mk' {k : Nat} {A : Around} (g : RoomG (k + 1) A) (c : Addr) (xs : List Value) (kw : List (Str × Value)) : RoomG k (A.under (.builtin "type.__call__" ⟨.ref c :: xs, kw⟩)) :=
  ⟨g.rm.make c xs kw, by first | exact g.gs | (have := g.gs; simpa [Around.under, Code.guards, Code.isGuard, pushGuards, guardIds] using this)⟩

/-- a def's promise where nothing is being shown -/
structure FnG (P : Program) (w : World) (K : PySem.W.Frag) (mg : Str → Option Value) (base : Heap) (k : Nat) (f : Addr) (fd : FuncData) (ps : List Str) (sp : Sp) : Prop where
  len : ∀ us H Q E, sp us H Q E → us.length = ps.length
  go : ∀ {A : Around} {up : List PySem.Env} {s : Shared} {H : Hp} {g : Args} {ws : List Value} {us : List V} {Q : VK} {E : XK}, RoomG k A → Env0 P w K mg base A up s H → BindsTo s fd g (ps.zip ws) → Vals us ws → sp us H Q E → codeAny (model P w) A (.call (.ref f) g) (CR (CX P w) up P w H s Q E) s
section
variable {P : Program} {w : World} {K : PySem.W.Frag} {mg : Str → Option Value} {base : Heap} {j k : Nat} {f : Addr} {fd : FuncData} {N ps : List Str} {sp sp' : Sp}
theorem FnG.high (F : FnG P w K mg base j f fd ps sp) (le : j ≤ k) : FnG P w K mg base k f fd ps sp := ⟨F.len, fun r => F.go (r.low le)⟩
theorem FnG.less (F : FnG P w K mg base k f fd ps sp) (h : ∀ us H Q E, sp' us H Q E → sp us H Q E) : FnG P w K mg base k f fd ps sp' :=
  ⟨fun us H Q E q => F.len us H Q E (h _ _ _ _ q), fun r e b v q => F.go r e b v (h _ _ _ _ q)⟩

/-- the context of such a def's body -/
abbrev cxG (P : Program) (w : World) (K : PySem.W.Frag) (mg : Str → Option Value) (base : Heap) (N : List Str) (qual : Str) (scope : Scope) (f : Addr) (cd : Value) (A : Around) (up : List PySem.Env) (s : Shared) (H : Hp) (E : XK) : Cx := cxOf (CX P w) P w K mg base N qual scope f cd A up s H E
def flV : Flow → Value
  | .ret v => v
  | _ => .none
theorem body_end {C : CXT} {qual : Str} {scope : Scope} {cd : Value} {A : Around} {up : List PySem.Env} {s s' : Shared} {H : Hp} {E : XK} {Q : VK} {fl : Flow} {u : Value} (hu : u = flV fl)
    (h : SP (cxOf C P w K mg base N qual scope f cd A up s H E) [] { nx := fun _ H' => Q .non H', rt := Q } fl s') : CR C up P w H s Q E (.ok (.ret u)) s' := by
  subst hu
  cases fl
  case ret z => obtain ⟨v, _, H', J, rv, q⟩ := h; exact ⟨v, H', J.os, J.bare, J.base, J.hok, rv, q⟩
  case next => obtain ⟨_, H', J, q⟩ := h; exact ⟨.non, H', J.os, J.bare, J.base, J.hok, rfl, q⟩
  case brk => obtain ⟨_, _, _, q⟩ := h; exact q.elim
  case cont => obtain ⟨_, _, _, q⟩ := h; exact q.elim
/-- by its body -/
theorem fn_g {name qual : Str} {params : Arguments} {body : List Stmt} {scope : Scope} {dV kV doc pm cdv ct oc : Value} {an od : Option Addr} {osl : Array (Option Value)}
    (at_ : K.lookup f = some ⟨oc, od, .func (PySem.W.fnOf name qual params body scope dV kV doc pm an cdv ct), osl⟩) (code : PySem.W.codeIn K cdv qual = true) (sc : FnScope N ps scope) (len : ∀ us H Q E, sp us H Q E → us.length = ps.length)
    (bd : ∀ (A : Around) (up : List PySem.Env) (s : Shared) (H : Hp) (us : List V) (Q : VK) (E : XK), RoomB k (A.deeper (envOfC qual scope s.heap.objs.size f cdv)) → sp us H Q E →
      ∃ t, PSs (cxG P w K mg base N qual scope f cdv A up s H E) body t ∧ t { nx := fun _ H' => Q .non H', rt := Q } (L2.start N us) H) :
    FnG P w K mg base (k + 1) f (PySem.W.fnOf name qual params body scope dV kV doc pm an cdv ct) ps sp := by
  refine ⟨len, ?_⟩
  intro A up s H g ws us Q E room e0 bi vals want
  have there : ∀ b o, base.get? b = some o → s.heap.get? b = some o := fun b o e => (e0.bs b o e).1
  have kin : K.In s.heap := e0.mod.kin.keeps there
  refine codeAny_call_function room.rm.depth (kin _ _ at_) rfl sc.co sc.gen rfl (PySem.W.codeRec_of kin code) (bi _ _ _ _ ?_)
  refine wpAny_newFunctionEnv_cells sc.kind (fun z hz => ?_) fun v hv s1 x => ?_
  · exact (sc.par z.1 (List.of_mem_zip (a := z.1) (b := z.2) hz).1).imp id fun q => ⟨q, PySem.W.cellsFrom_some _ _ _ (.inl q)⟩
  · subst hv
    refine ⟨(e0.mod.nolimit.keeps there).keeps x.toInCall.keep, codeAny_func ?_⟩
    obtain ⟨t, ht, hq⟩ := bd A up s H us Q E (room.inner _) want
    have I := inv_start (CX := CX P w) (E := E) sc room.rm.hd e0 (len _ _ _ _ want) vals x
    refine wpAny_mono (ht.run [] s1 _ H _ I hq) (fun fl s' hs => ?_) fun _ _ z => z
    exact body_end (by cases fl <;> rfl) hs
end

section
variable {X : Cx} {k : Nat} {f C : Addr} {fd : FuncData} {ps : List Str} {sp : Sp} {pins : List (Addr × Obj)} {σ : L2.St} {H : Hp} {s : Shared} {Q : VK} {us : List V} {ws : List Value} {E : XK}
/-- the def is called -/
theorem run_g {kw : List (Str × Value)} {gs : List Value} (F : FnG X.prog X.w X.K X.mg X.base k f fd ps sp) (g : RoomG k X.A) (hx : PassesAt (CX X.prog X.w) X σ E) (I : Inv X pins σ H s) (b : BindsTo s fd ⟨gs, kw⟩ (ps.zip ws)) (r : Vals us ws) (h : sp us H Q E) :
    wpAny (model X.prog X.w) X.A (call (.ref f) gs kw) (EP X pins σ Q) X.xe s := by
  refine wpAny_call (codeAny_mono (F.go g I.env0 b r h) fun res s' z => ?_)
  cases res
  case error e => exact hx _ _ _ _ _ I z
  case ok fl =>
    cases fl
    case ret u => exact Inv.after I z
    all_goals exact (show False from z).elim
/-- by position alone -/
theorem run_gp (F : FnG X.prog X.w X.K X.mg X.base k f fd ps sp) (g : RoomG k X.A) (b : Binds X.K fd ps []) (hx : PassesAt (CX X.prog X.w) X σ E) (I : Inv X pins σ H s) (r : Vals us ws) (h : sp us H Q E) :
    wpAny (model X.prog X.w) X.A (call (.ref f) ws) (EP X pins σ Q) X.xe s := by
  have bb := b s ws I.kIn (by rw [List.append_nil, ← r.length]; exact F.len _ _ _ _ h)
  rw [List.append_nil] at bb
  exact run_g F g hx I bb r h
/-- an object is made -/
theorem run_gm (M : Mk X.K C f) (F : FnG X.prog X.w X.K X.mg X.base k f fd ps sp) (g : RoomG (k + 1) X.A) (b : Binds X.K fd ps []) (hx : PassesAt (CX X.prog X.w) X σ E) (I : Inv X pins σ H s) (r : Vals us ws)
    (h : ∀ i d, H i = none → H d = none → d ≠ i → sp (.ref i :: us) (upd (upd H d (.own i)) i (.ins C d [])) (fun v H' => v = .non ∧ Q (.ref i) H') E) : wpAny (model X.prog X.w) X.A (call (.ref C) ws) (EP X pins σ Q) X.xe s := by
  have no : ∀ b, s.heap.objs.size ≤ b → H b = none := fun b le => I.hok.fresh le
  have want := h (s.heap.objs.size + 1) s.heap.objs.size (no _ (Nat.le_succ _)) (no _ (Nat.le_refl _)) (Nat.ne_of_lt (Nat.lt_succ_self _))
  have J := Inv.made (C := C) I
  have rr : Vals (V.ref (s.heap.objs.size + 1) :: us) (Value.ref (s.heap.objs.size + 1) :: ws) := .cons rfl r
  have bb := b _ (Value.ref (s.heap.objs.size + 1) :: ws) J.kIn (by rw [List.append_nil, ← rr.length]; exact F.len _ _ _ _ want)
  rw [List.append_nil] at bb
  refine wpAny_call (make_map (f := f) I.kIn M.makes M.init (beq_iff_eq.mp M.fn) (codeAny_mono (F.go (g.mk' C ws []) (J.env0.make C ws []) bb rr want) fun res s' z => ?_))
  cases res
  case error e => exact hx _ _ _ _ _ J z
  case ok fl =>
    cases fl
    case ret u =>
      obtain ⟨v, H', J', rv, ev, q⟩ := J.after z
      subst ev
      exact ⟨rv, V.ref _, H', J', rfl, q⟩
    all_goals exact (show False from z).elim
end

/-! ### calls -/
def tMethG (C : Addr) (m : Str) (sp : Sp) (E : SX) (ta : TE) (t : TA) : TE := fun σ H Q => ta σ H fun x H1 => ∃ a d fs, x = .ref a ∧ H1 a = some (.ins C d fs) ∧ fs.lookup m = none ∧ t σ H1 fun us H2 => sp (x :: us) H2 Q (E σ)
def tMakeG (C : Addr) (sp : Sp) (E : SX) (t : TA) : TE := fun σ H Q => t σ H fun us H1 => ∀ i d, H1 i = none → H1 d = none → d ≠ i → sp (.ref i :: us) (upd (upd H1 d (.own i)) i (.ins C d [])) (fun v H2 => v = .non ∧ Q (.ref i) H2) (E σ)
def tHeldG (i : Nat) (f : Addr) (sp : Sp) (E : SX) (t : TA) : TE := fun σ H Q => σ[i]? = some (some (.ref f)) ∧ t σ H fun us H1 => sp us H1 Q (E σ)
def tKwG (n m : Nat) (sp : Sp) (gV : List V → List V → List V) (E : SX) (t tk : TA) : TE := fun σ H Q => t σ H fun us H1 => tk σ H1 fun zs H2 => us.length = n ∧ zs.length = m ∧ sp (gV us zs) H2 Q (E σ)
section
variable {X : Cx} {k n i : Nat} {f C : Addr} {fd : FuncData} {ps ks : List Str} {sp : Sp} {E : SX} {x m : Str} {p pos apos : Pos} {e o : Expr} {es : List Expr} {kws : List Keyword} {ta : TE} {t tk : TA} {gA : List Value → List Value → List Value} {gV : List V → List V → List V}
/-- the first is plain, no star in the rest -/
def Plain (X : Cx) (pos : Pos) (e : Expr) (es : List Expr) : Prop := starEach (e :: es) X.env = (false, eval e X.env) :: starEach es X.env ∧ (backTo pos (starEach es X.env)).any (·.1) = false
theorem pg_call (F : FnG X.prog X.w X.K X.mg X.base k f fd ps sp) (g : RoomG k X.A) (b : Binds X.K fd ps []) (hx : ∀ σ, PassesAt (CX X.prog X.w) X σ (E σ)) (gl : Gl X x) (hm : X.mg x = some (.ref f)) (kp : PySem.W.keepIn X.K (.ref f) = true) (db : (x == ("__debug__" : Str)) = false)
    (pl : Plain X pos e es) (ha : PA X (e :: es) t) : PE X (.Call (.Name x p) (e :: es) [] pos) (tCallS sp E t) := ⟨fun pins s σ H Q I want =>
  wpAny_Call_Name_kw (ld_glob I gl hm (PySem.W.callWith_K (h₀ := X.base) I.ok.mod.kin kp (thn (ha.run pos pins s σ H _ I want) fun ws s1 ⟨us, H1, J, r, q⟩ => ⟨J.kIn, run_gp F g b (hx σ) J r q⟩) pl.1 pl.2) db)⟩
theorem pg_call0 (F : FnG X.prog X.w X.K X.mg X.base k f fd ps sp) (g : RoomG k X.A) (b : Binds X.K fd ps []) (hx : ∀ σ, PassesAt (CX X.prog X.w) X σ (E σ)) (gl : Gl X x) (hm : X.mg x = some (.ref f)) (kp : PySem.W.keepIn X.K (.ref f) = true) (db : (x == ("__debug__" : Str)) = false) :
    PE X (.Call (.Name x p) [] [] pos) (tCallS sp E tNil) := ⟨fun pins s σ H Q I want => wpAny_Call_Name_kw (ld_glob I gl hm (PySem.W.callWith_K0 I.kIn kp (run_gp (ws := []) F g b (hx σ) I .nil want)) db)⟩
theorem pg_meth {pl : Sem Bool} (F : FnG X.prog X.w X.K X.mg X.base k f fd ps sp) (g : RoomG k X.A) (b : Binds X.K fd ps []) (hx : ∀ σ, PassesAt (CX X.prog X.w) X σ (E σ)) (ho : PE X o ta) (c : Cls X.K C) (me : Meth X.K C m f) (ha : PA X (e :: es) t) (pn : Plain X pos e es)
    (ev : eval (.Call (.Attribute o m apos) (e :: es) [] pos) X.env = (do let ov ← eval o X.env; standAt apos.atName; let (f, first) ← holding [ov] (getMethod ov m pl); callWith pos f first (backTo pos (starEach (e :: es) X.env)) (backToKw pos (keywordEach [] X.env)))) :
    PE X (.Call (.Attribute o m apos) (e :: es) [] pos) (tMethG C m sp E ta t) := ⟨fun pins s σ H Q I want => PySem.W.methodCall_KW (pl := pl) (thn (ho.run pins s σ H _ I want) fun u s1 ⟨z, H1, J, rz, a, d, fs, ez, ea, lk, q⟩ => by
  subst ez
  cases (show u = Value.ref a from rz)
  exact getmeth_ok J ea c me lk (PySem.W.callWith_K (first := [.ref a]) (h₀ := X.base) I.ok.mod.kin me.kp (thn (ha.run pos pins s1 σ H1 _ J q) fun ws s2 ⟨us, H2, J2, r, q2⟩ => ⟨J2.kIn, run_gp (ws := .ref a :: ws) (us := .ref a :: us) F g b (hx σ) J2 (.cons rfl r) q2⟩) pn.1 pn.2)) ev⟩
theorem pg_meth0 {pl : Sem Bool} (F : FnG X.prog X.w X.K X.mg X.base k f fd ps sp) (g : RoomG k X.A) (b : Binds X.K fd ps []) (hx : ∀ σ, PassesAt (CX X.prog X.w) X σ (E σ)) (ho : PE X o ta) (c : Cls X.K C) (me : Meth X.K C m f)
    (ev : eval (.Call (.Attribute o m apos) [] [] pos) X.env = (do let ov ← eval o X.env; standAt apos.atName; let (f, first) ← holding [ov] (getMethod ov m pl); callWith pos f first (backTo pos (starEach [] X.env)) (backToKw pos (keywordEach [] X.env)))) :
    PE X (.Call (.Attribute o m apos) [] [] pos) (tMethG C m sp E ta tNil) := ⟨fun pins s σ H Q I want => PySem.W.methodCall_KW (pl := pl) (thn (ho.run pins s σ H _ I want) fun u s1 ⟨z, H1, J, rz, a, d, fs, ez, ea, lk, q⟩ => by
  subst ez
  cases (show u = Value.ref a from rz)
  exact getmeth_ok J ea c me lk (PySem.W.callWith_K0 (first := [.ref a]) J.kIn me.kp (run_gp (ws := [.ref a]) (us := [.ref a]) F g b (hx σ) J (.cons rfl .nil) q))) ev⟩
theorem pg_make (M : Mk X.K C f) (F : FnG X.prog X.w X.K X.mg X.base k f fd ps sp) (g : RoomG (k + 1) X.A) (b : Binds X.K fd ps []) (hx : ∀ σ, PassesAt (CX X.prog X.w) X σ (E σ)) (gl : Gl X x) (hm : X.mg x = some (.ref C)) (db : (x == ("__debug__" : Str)) = false)
    (pl : Plain X pos e es) (ha : PA X (e :: es) t) : PE X (.Call (.Name x p) (e :: es) [] pos) (tMakeG C sp E t) := ⟨fun pins s σ H Q I want =>
  wpAny_Call_Name_kw (ld_glob I gl hm (PySem.W.callWith_K (h₀ := X.base) I.ok.mod.kin M.kp (thn (ha.run pos pins s σ H _ I want) fun ws s1 ⟨us, H1, J, r, q⟩ => ⟨J.kIn, run_gm M F g b (hx σ) J r q⟩) pl.1 pl.2) db)⟩
theorem pg_make0 (M : Mk X.K C f) (F : FnG X.prog X.w X.K X.mg X.base k f fd ps sp) (g : RoomG (k + 1) X.A) (b : Binds X.K fd ps []) (hx : ∀ σ, PassesAt (CX X.prog X.w) X σ (E σ)) (gl : Gl X x) (hm : X.mg x = some (.ref C)) (db : (x == ("__debug__" : Str)) = false) :
    PE X (.Call (.Name x p) [] [] pos) (tMakeG C sp E tNil) := ⟨fun pins s σ H Q I want => wpAny_Call_Name_kw (ld_glob I gl hm (PySem.W.callWith_K0 I.kIn M.kp (run_gm (ws := []) M F g b (hx σ) I .nil want)) db)⟩
theorem pg_held (F : FnG X.prog X.w X.K X.mg X.base k f fd ps sp) (g : RoomG k X.A) (b : Binds X.K fd ps []) (hx : ∀ σ, PassesAt (CX X.prog X.w) X σ (E σ)) (hN : X.N[i]? = some x) (vi : Vis X.env.scope x) (kp : PySem.W.keepIn X.K (.ref f) = true) (db : (x == ("__debug__" : Str)) = false) (dc : (x == ("__classdict__" : Str)) = false)
    (pl : Plain X pos e es) (ha : PA X (e :: es) t) : PE X (.Call (.Name x p) (e :: es) [] pos) (tHeldG i f sp E t) := ⟨fun pins s σ H Q I ⟨held, want⟩ =>
  wpAny_Call_Name_kw (thn ((pe_var (pos := p) hN vi db dc).run pins s σ H (fun v H1 => v = .ref f ∧ H1 = H) I ⟨.ref f, held, rfl, rfl⟩) fun u s1 ⟨v, H1, J, rv, q⟩ => by
    obtain ⟨e1, e2⟩ := q
    subst e1 e2
    cases rv
    exact PySem.W.callWith_K (h₀ := X.base) J.ok.mod.kin kp (thn (ha.run pos pins s1 σ _ _ J want) fun ws s2 ⟨us, H2, J2, r, q2⟩ => ⟨J2.kIn, run_gp F g b (hx σ) J2 r q2⟩) pl.1 pl.2)⟩
theorem pg_kw (F : FnG X.prog X.w X.K X.mg X.base k f fd ps sp) (g : RoomG k X.A) (b : KBn X.K fd ps n ks gA gV) (hx : ∀ σ, PassesAt (CX X.prog X.w) X σ (E σ)) (gl : Gl X x) (hm : X.mg x = some (.ref f)) (kp : PySem.W.keepIn X.K (.ref f) = true) (db : (x == ("__debug__" : Str)) = false)
    (hst : starEach (e :: es) X.env = (false, eval e X.env) :: starEach es X.env) (pl : ((backTo pos (starEach (e :: es) X.env)).any (·.1) || (backToKw pos (keywordEach kws X.env)).any (·.1.isNone)) = false) (k1 : (backToKw pos (keywordEach kws X.env)).all (·.1.isSome) = true) (k2 : (backToKw pos (keywordEach kws X.env)).filterMap (·.1) = ks)
    (ha : PA X (e :: es) t) (hk : PK X kws tk) : PE X (.Call (.Name x p) (e :: es) kws pos) (tKwG n ks.length sp gV E t tk) := ⟨fun pins s σ H Q I want =>
  wpAny_Call_Name_kw (ld_glob I gl hm (PySem.W.callWith_KW (h₀ := X.base) I.ok.mod.kin kp k1 (thn (ha.run pos pins s σ H _ I want) fun ws s1 ⟨us, H1, J, r, q⟩ => thn (hk.run pos pins s1 σ H1 _ J q) fun ys s2 ⟨zs, H2, J2, rz, l1, l2, q2⟩ => ⟨J2.kIn, by
    rw [k2]
    exact run_g F g (hx σ) J2 (b.to s2 ws ys J2.kIn (r.length.symm.trans l1) (rz.length.symm.trans l2)) (b.rel r rz) q2⟩) pl hst) db)⟩
end
end Z
end

section
set_option maxRecDepth 100000
set_option maxHeartbeats 3200000
/-! G2: set(a list of ints), as HandS.SetFor has it of a tuple (its call_set_tupI turned to lists). -/
namespace Z
open PySem PySem.Spec PyProof.Rows L2
/-- a new set's object -/
abbrev sEmpty (w : World) : Obj := { cls := .type "set", dict := none, data := .set #[] 0 (.fresh 0 0 (!w.params.followText "set-order")) }
section
variable {P : Program} {w : World} {A : Around} {E : Value → Shared → Prop} {s : Shared}
theorem call_set_lstI {l : Addr} {zs : Array Value} (ms : List Int) {Q : Value → Shared → Prop} (cool : A.handled = none) (isl : s.heap.IsList l zs) (whole : IntsAre zs.toList ms) (room : ms.length + 1 < scanBound)
    (h : ∀ (hp' : Heap) (tq c : Nat), SetR w hp' s.heap.objs.size (fun j => decide (j ∈ ms)) c → c ≤ ms.length → (∀ b o, s.heap.get? b = some o → hp'.get? b = some o) → Q (.ref s.heap.objs.size) { s with heap := hp', toks := tq }) :
    wpAny (model P w) A (call (.type "set") [.ref l]) Q E s := by
  have zsz : zs.size = ms.length := by
    have q := IntsAre.length whole
    rw [Array.length_toList] at q
    exact q
  obtain ⟨c, tl, mro'⟩ := F.called_set.mro
  have mkd := F.called_set.made
  have sbc := F.called_set.sub
  refine wpAny_call (codeAny_of_tree (show wpAny _ _ (callAny (.type "set") _) _ _ _ from ?_)); refine wpAny_pure ⟨Code.quiet_builtin _ (by decide +kernel), codeAny_builtin F.entry_type_call ?_⟩
  rw [Around.under_plain (weight_type_call_type "set" [.ref l] []) rfl]; have q1 := F.called_set.notType
  have q2 := F.called_set.canCreate; have q3 := F.typeCall_set_1 (.ref l)
  repeat any_goals first | assumption | wp_step

  refine codeAny_mono (code_set_led1 (.ref l) (E := E) (Q₁ := fun ob tA => ob = .ref s.heap.objs.size ∧ tA = { s with heap := s.heap.push (sEmpty w) }) ⟨rfl, rfl⟩) fun r tA ans => ?_
  cases r with
  | error e => exact ans
  | ok fl =>
    cases fl with
    | ret ob =>
      obtain ⟨rfl, rfl⟩ := ans
      have sAt : (s.heap.push (sEmpty w)).get? s.heap.objs.size = some (sEmpty w) := Heap.get?_push_size _ rfl
      have sTy : Shared.TypeIs { s with heap := s.heap.push (sEmpty w) } (.ref s.heap.objs.size) "set" := ⟨_, sAt, rfl⟩
      have ini := F.called_set.init.lookup
      have bnd' := F.called_set.init.bind (.ref s.heap.objs.size)
      repeat any_goals first | assumption | wp_step

      refine codeAny_mono (codeAny_call_builtin (R := wants (fun r tB => r = .none ∧ ∃ hp' tq c, tB = { s with heap := hp', toks := tq } ∧ SetR w hp' s.heap.objs.size (fun j => decide (j ∈ ms)) c ∧ c ≤ ms.length ∧
          (∀ b o, s.heap.get? b = some o → hp'.get? b = some o)) E) F.called_set.init.plain F.entry_set_init (check_set_init_1 sTy ?_)) fun rB tB ansB => ?_
      · obtain ⟨lo, lob, lcl, le, ldt⟩ := isl
        obtain ⟨kc, kd', kdt, ksl⟩ := lo
        simp only at lcl ldt
        subst lcl; subst ldt
        have lob' : (s.heap.push (sEmpty w)).get? l = some { cls := .type "list", dict := kd', data := .seq zs le, slots := ksl } := Heap.get?_push_of_some _ lob
        have subS := F.sub_list_set
        have subF := F.sub_list_frozenset
        have nDict : (Value.type "list" == Value.type "dict") = false := by decide
        have isl1 : (s.heap.push (sEmpty w)).IsList l zs := ⟨_, lob', rfl, le, rfl⟩
        unfold Builtin.«set.__init__» Builtin.Frozenset.updateFrom noKeywords; generalize hPI : pyIter = PI; wp_walk; subst hPI
        refine wpAny_pyIter_list isl1 ?_
        refine wpAny_bind (wpAny_runValue ?_); have lLt : l < s.heap.objs.size := Heap.lt_size lob
        have cool3 : A.in1.in1.in1.handled = none := by simp [cool]
        have szA : (s.heap.push (sEmpty w)).objs.size = s.heap.objs.size + 1 := Heap.size_push ..
        have lNe : l ≠ (s.heap.push (sEmpty w)).objs.size := by
          rw [Heap.size_push]; exact Nat.ne_of_lt (Nat.lt_succ_of_lt lLt)
        have sNot : s.heap.objs.size ∉ [(s.heap.push (sEmpty w)).objs.size, l] := by
          rw [Heap.size_push]; simp only [List.mem_cons, List.mem_singleton, List.not_mem_nil, or_false, not_or]
          exact ⟨Nat.ne_of_lt (Nat.lt_succ_self _), Nat.ne_of_gt lLt⟩
        have valAt : ∀ (i : Nat) (v : Value), zs[i]? = some v → ∃ k t, ms[i]? = some k ∧ v = .int k t := fun i v vAt => by
          have ilt : i < ms.length := by rw [← zsz]; exact (Array.getElem?_eq_some_iff.mp vAt).1
          obtain ⟨t, e⟩ := PyProof.Rows.IntsAre.int_at whole i v (by rw [Array.getElem?_toList]; exact vAt)
          refine ⟨ms[i], t, List.getElem?_eq_getElem ilt, ?_⟩
          rw [e, List.getD_eq_getElem?_getD, List.getElem?_eq_getElem ilt] <;> rfl
        refine set_update_ints ((Walks.list cool3 _ l lNe zs).toS) s.heap.objs.size
          sNot ms zsz room valAt (zs.size - 0) 0 _ (by omega) (Nat.zero_le _)
          ⟨⟨_, Heap.get?_push_size _ rfl, rfl, rfl⟩, (isl1.push _)⟩ ?start' ?fin'
        case start' =>
          have gotS : ((s.heap.push (sEmpty w)).push { cls := .type "list_iterator", data := .fields #[.ref l, .int 0 0] }).get? s.heap.objs.size
              = some (sEmpty w) := Heap.get?_push_of_some _ sAt
          exact ⟨0, Nat.le_refl 0, setR_new_at gotS⟩
        case fin' =>
          intro s' cc mvd cLe sAt'
          obtain ⟨hp', gB, dB, tqB, oB⟩ := s'
          have e1 : gB = s.gens := mvd.gens
          have e2 : dB = s.drawn := mvd.drawn
          have e3 : oB = s.os := mvd.os
          subst e1; subst e2; subst e3
          show wpAny _ _ _ _ _ _
          refine wpAny_pure ?_
          show wpAny _ _ (ret Value.none) _ _ _
          rw [zsz] at cLe
          refine wpAny_pure ⟨rfl, hp', tqB, cc, rfl, sAt', cLe, fun b o e => ?_⟩
          have lt0 : b < s.heap.objs.size := Heap.lt_size e
          have ne1 : b ≠ s.heap.objs.size := Nat.ne_of_lt lt0
          have ne2 : b ≠ (s.heap.push (sEmpty w)).objs.size := by
            rw [Heap.size_push]; exact Nat.ne_of_lt (Nat.lt_succ_of_lt lt0)
          exact mvd.heap b o (by simp only [List.mem_cons, List.mem_singleton, List.not_mem_nil, or_false, not_or]; exact ⟨ne1, ne2⟩) (Heap.get?_push_of_some _ (Heap.get?_push_of_some _ e))

      · cases rB with
        | error e => exact ansB
        | ok fl₂ =>
          cases fl₂ with
          | ret r =>
            obtain ⟨rfl, hp', tq, cc, rfl, sAt', cLe, kpt⟩ := ansB
            repeat any_goals first | assumption | wp_step
            exact h _ _ _ sAt' cLe kpt
          | _ => exact ansB.elim
    | _ => exact ans.elim

end
end Z
end

section
set_option maxHeartbeats 1000000
/-! Z13: targets, comprehensions, calls. -/
namespace Z
open PySem L2

section
variable {X : Cx} {W : Wd} {E : XK} {Es : SX} {a b c e tg : Expr} {es : List Expr} {pos : Pos} {fa fb fc : Env → Sto → Res Vl} {fs : Env → Sto → Res (List Vl)}
variable {α : Nat → Addr} {F : Hp} {S : Sto} {H : Hp} {Q : VK} {x y : Vl} {v u : V}

/-! ### targets -/
/-- names are stored -/
structure Stored (W : Wd) (α : Nat → Addr) (F : Hp) (N : Nat) (is : List Nat) (σ : L2.St) (ρ' : Env) (σ' : L2.St) : Prop where
  env : EnvR W α F N ρ' σ'
  out : ∀ (j : Nat), j ∉ is → σ'[j]? = σ[j]?
  len : σ'.length = σ.length
def gD (W : Wd) (t : Tg) : TG := fun v σ H Q => ∃ α F S x ρ ρ', Sr W α F S H ∧ EnvR W α F S.length ρ σ ∧ VlR W α F S.length x v ∧ bindT t x ρ = some ρ' ∧ ∀ σ', Stored W α F S.length t.slots σ ρ' σ' → Q σ' H
def gDs (W : Wd) (ts : List Tg) : TGs := fun vs σ H Q => ∃ α F S ds ρ ρ', Sr W α F S H ∧ EnvR W α F S.length ρ σ ∧ Rps W F ds vs ∧ bindTs ts ds ρ = some ρ' ∧ ∀ σ', Stored W α F S.length (Tg.slotss ts) σ ρ' σ' → Q σ' H
theorem pgI {t t' : TG} (h : PG X tg t) (k : ∀ v σ H Q, t' v σ H Q → t v σ H Q) : PG X tg t' := ⟨fun pins s σ H x u Q I r q => h.run pins s σ H x u Q I r (k x σ H Q q)⟩
theorem pgsI {t t' : TGs} (h : PGs X es t) (k : ∀ v σ H Q, t' v σ H Q → t v σ H Q) : PGs X es t' := ⟨fun pins s σ H x u Q I r q => h.run pins s σ H x u Q I r (k x σ H Q q)⟩
theorem dg_var {i : Nat} {n : Str} (hN : X.N.Nodup) (hi : X.N[i]? = some n) (hx : Loc X.env.scope n) (hf : X.fn n = true ∨ X.env.scope.names.lookup n = some .local) : PG X (.Name n pos) (gD W (.var i)) :=
  pgI (pg_name hN hi hx hf) fun v σ H Q ⟨α, F, S, x, ρ, ρ', s, er, r, hb, k⟩ => by
    cases hb
    refine k _ ⟨er.set r i, fun j hj => ?_, by simp⟩
    have ne : i ≠ j := fun z => hj (by simp [Tg.slots, z])
    rw [List.getElem?_set_ne ne]
theorem asg_cons (h : notStar e = true) {env : PySem.Env} : assignEach (e :: es) env = (false, assign e env) :: assignEach es env := by
  cases e <;> first | rfl | (simp [notStar] at h)
theorem asg_len : ∀ {es : List Expr} {env : PySem.Env}, es.all notStar = true → (assignEach es env).length = es.length
  | [], _, _ => rfl
  | e :: es, env, h => by
    rw [List.all_cons, Bool.and_eq_true] at h
    rw [asg_cons h.1, List.length_cons, asg_len h.2, List.length_cons]
theorem asg_star : ∀ {es : List Expr} {env : PySem.Env}, es.all notStar = true → List.findIdx? (fun x => x.fst) (assignEach es env) = none
  | [], _, _ => rfl
  | e :: es, env, h => by
    rw [List.all_cons, Bool.and_eq_true] at h
    rw [asg_cons h.1, List.findIdx?_cons]
    simp [asg_star h.2]
theorem dg_tup {k : Nat} {ts : List Tg} (hK : W.K = X.K) (hc : X.calm = true) (hn : es.all notStar = true) (h : PGs X es (gDs W ts)) (hl : ts.length = es.length) : PG X (.Tuple es k pos) (gD W (.tup ts)) := by
  refine pgI (pg_tup (n := es.length) hc h (asg_len hn) (asg_star hn)) fun v σ H Q ⟨α, F, S, x, ρ, ρ', s, er, r, hb, k⟩ => ?_
  cases x with
  | p n => cases hb
  | d x =>
    cases x with
    | tup ds =>
      obtain ⟨a, vs, rfl, q, rr⟩ := (show Rp W F (.tup ds) v from r)
      have hb : bindTs ts ds ρ = some ρ' := hb
      have len : ∀ (ts : List Tg) (ds : List D) (ρ ρ' : Env), bindTs ts ds ρ = some ρ' → ds.length = ts.length := by
        intro ts
        induction ts with
        | nil => intro ds ρ ρ' h; cases ds <;> simp [bindTs] at h ⊢
        | cons t ts ih =>
          intro ds ρ ρ' h
          cases ds with
          | nil => simp [bindTs] at h
          | cons d ds =>
            simp only [bindTs] at h
            cases e : bindT t (.d d) ρ with
            | none => rw [e] at h; cases h
            | some ρ1 => rw [e] at h; simp [ih ds ρ1 ρ' h]
      exact ⟨a, vs, rfl, by rw [← hK]; exact s.sub.sqT (.of q), by rw [← rr.length, len ts ds ρ ρ' hb, hl], α, F, S, ds, ρ, ρ', s, er, rr, hb, k⟩
    | _ => cases hb
theorem dgs_nil : PGs X [] (gDs W []) := pgsI pgs_nil fun vs σ H Q ⟨α, F, S, ds, ρ, ρ', s, er, r, hb, k⟩ => by
  cases ds with
  | nil =>
    cases hb
    exact ⟨r, k σ ⟨er, fun _ _ => rfl, rfl⟩⟩
  | cons _ _ => cases hb
theorem dgs_cons {t : Tg} {ts : List Tg} (hn : notStar e = true) (h : PG X e (gD W t)) (hs : PGs X es (gDs W ts)) : PGs X (e :: es) (gDs W (t :: ts)) := pgsI (pgs_cons h hs (by rw [asg_cons hn]; rfl)) fun vs σ H Q ⟨α, F, S, ds, ρ, ρ', s, er, r, hb, k⟩ => by
  cases ds with
  | nil => cases hb
  | cons d ds =>
    obtain ⟨v, r0, rfl, r1, r2⟩ := r
    simp only [bindTs] at hb
    cases e1 : bindT t (.d d) ρ with
    | none => rw [e1] at hb; cases hb
    | some ρ1 =>
      rw [e1] at hb
      refine ⟨v, r0, rfl, α, F, S, .d d, ρ, ρ1, s, er, r1, e1, fun σ1 st1 => ⟨α, F, S, ds, ρ1, ρ', s, st1.env, r2, hb, fun σ2 st2 => k σ2 ⟨st2.env, fun j hj => ?_, st2.len.trans st1.len⟩⟩⟩
      have hj : j ∉ t.slots ∧ j ∉ Tg.slotss ts := by simpa [Tg.slotss, List.mem_append, not_or] using hj
      rw [st2.out j hj.2, st1.out j hj.1]

/-! ### list comprehensions -/
theorem wipe_get (σ : L2.St) : ∀ (vs : List Nat) (j : Nat), (L2.wipe σ vs)[j]? = if j ∈ vs ∧ j < σ.length then some none else σ[j]?
  | [], j => by simp [L2.wipe]
  | i :: vs, j => by
    unfold L2.wipe
    by_cases e : i = j
    · subst e
      by_cases hl : i < σ.length
      · rw [List.getElem?_set_self (by rw [wipe_length]; exact hl)]
        simp [hl]
      · rw [List.getElem?_eq_none (by simp [wipe_length]; omega)]
        simp [hl]
    · rw [List.getElem?_set_ne e, wipe_get σ vs j]
      have : (j ∈ i :: vs) ↔ j ∈ vs := by
        rw [List.mem_cons]
        exact ⟨fun z => z.resolve_left fun w => e w.symm, .inr⟩
      simp only [this]
theorem wipe_stored {α : Nat → Addr} {N : Nat} {σ σ' : L2.St} {ρ' : Env} {is vs : List Nat} (h : Stored W α F N is (L2.wipe σ vs) ρ' σ') (hs : ∀ i ∈ is, i ∈ vs) : L2.wipe σ' vs = L2.wipe σ vs := by
  have hl : σ'.length = σ.length := by rw [h.len, wipe_length]
  apply List.ext_getElem?
  intro j
  rw [wipe_get, wipe_get, hl]
  by_cases hj : j ∈ vs ∧ j < σ.length
  · rw [if_pos hj, if_pos hj]
  · rw [if_neg hj, if_neg hj]
    by_cases hv : j ∈ vs
    · have h1 : ¬ j < σ.length := fun z => hj ⟨hv, z⟩
      rw [List.getElem?_eq_none (by omega), List.getElem?_eq_none (by omega)]
    · rw [h.out j fun z => hv (hs j z), wipe_get, if_neg fun z => hv z.1]
theorem unlock_opt (s : Sr W α F S H) {lk : Option (Nat × Cell)} (hk : ∀ n c, lk = some (n, c) → S[n]? = some c ∧ c ≠ .dead) {α' : Nat → Addr} {F' : Hp} {S' : Sto} {H' : Hp} (x : Ext α F (lock S lk) H α' F' S' H') (s' : Sr W α' F' S' H') :
    Sr W α' F' (unlock S' lk) H' ∧ Ext α F S H α' F' (unlock S' lk) H' := by
  cases lk with
  | none => exact ⟨s', x⟩
  | some q =>
    obtain ⟨h1, h2⟩ := hk q.1 q.2 rfl
    exact s.unlock h1 x s' h2
/-- the list that was made becomes the answer -/
theorem fin_made {cell : Bool} {α0 : Nat → Addr} {F0 : Hp} {S0 : Sto} {H0 : Hp} {d0 : Addr} {xs : List Vl} {vs : List V} (p : Post W E (VlX W) α0 F0 S0 H0 (newList cell xs S) Q) (x : Ext α0 F0 S0 H0 α F S H) (s : Sr W α F S H) (hd : H0 d0 = none) (o : Oth α F S d0) (h : H d0 = some (.lst vs)) (r : VlRs W α F S.length xs vs) : Q (.ref d0) H := by
  unfold newList at p
  split at p
  · split at p
    · refine p _ _ _ _ (x.adoptC hd) (s.adoptC o h (c := .lst xs) ⟨vs, h, r.mono (fun n hn => adr_ne (Nat.ne_of_lt hn)) (Nat.le_succ _) (Sub.refl F)⟩) ⟨by rw [adr_same], by simp⟩
    · split at p
      · rename_i ds hp
        exact p _ _ _ _ (x.adoptF hd o.f) (s.adoptF o h) ⟨d0, vs, rfl, upd_same, Rps.mono (fun a v q => by rw [upd_ne (ne_of_none q o.f)]; exact q) (r.pures hp)⟩
      · exact p.elim
  · exact p.elim
def lcF (fcond : Env → Sto → Res Bool) (fe : Env → Sto → Res Vl) : Env → Sto → Res (Option Vl) := fun ρ S => (fcond ρ S).bind fun b S => if b then (fe ρ S).bind fun y S => .ok (some y) S else .ok none S
def lcAll (cell : Bool) (t : Tg) (own : List Nat) (fi : Env → Sto → Res (List Vl × Option (Nat × Cell))) (fcond : Env → Sto → Res Bool) (fe : Env → Sto → Res Vl) : Env → Sto → Res Vl := fun ρ S =>
  (fi ρ S).bind fun q S => (turns (lcF fcond fe) t (Z.wipe ρ own) q.1 [] (lock S q.2)).bind fun ys S => newList cell ys (unlock S q.2)
theorem lc_read {own : List (Str × Nat)} {cell : Bool} {t : Tg} {fi : Env → Sto → Res (List Vl × Option (Nat × Cell))} {fcond : Env → Sto → Res Bool} {fe : Env → Sto → Res Vl} (hsub : ∀ i ∈ t.slots, i ∈ own.map (·.2))
    {σ : L2.St} {H : Hp} {Q : VK} (h : tD W Es (lcAll cell t (own.map (·.2)) fi fcond fe) σ H Q) : tLc (tDI W Es fi) (gD W t) (tDT W Es0 fcond) (tD W Es0 fe) (own.map (·.2)) σ H Q := by
  obtain ⟨α, F, ρ, S, s, er, p⟩ := h
  refine ⟨α, F, ρ, S, s, er, (Post.bind (Rel := WalkR W) p).imp fun J H1 ⟨α1, F1, q, S1, x1, s1, ⟨wk, lkok⟩, p1⟩ => ?_⟩
  dsimp only at p1
  intro d0 hd0
  obtain ⟨xs, lk⟩ := q
  dsimp only at wk lkok p1
  have s1l : Sr W α1 F1 (lock S1 lk) H1 := lock_sr s1 fun n c h => (lkok n c h).1
  have e1 : EnvR W α1 F1 (lock S1 lk).length ρ σ := by rw [lock_len]; exact er.ext x1
  generalize hfull : turns (lcF fcond fe) t (Z.wipe ρ (own.map (·.2))) xs [] (lock S1 lk) = full at p1
  let Winv : Nat → Nat → Hp → Prop := fun i m H' => m = xs.length - i ∧ i ≤ xs.length ∧ ∃ αc Fc Sc acc vs, Ext α1 F1 (lock S1 lk) H1 αc Fc Sc H' ∧ Sr W αc Fc Sc H' ∧ Oth αc Fc Sc d0 ∧ H' d0 = some (.lst vs) ∧ VlRs W αc Fc Sc.length acc vs ∧
    turns (lcF fcond fe) t (Z.wipe ρ (own.map (·.2))) (xs.drop i) acc Sc = full
  refine ⟨Winv, ⟨xs.length, rfl, Nat.zero_le _, α1, F1, lock S1 lk, [], [], Ext.refl.oth hd0, s1l.oth (s1l.oth0 hd0), s1l.oth0 hd0, upd_same, .nil, hfull⟩, ?_⟩
  rintro i m H' ⟨rfl, hi', αc, Fc, Sc, acc, vs, x2, s2, o2, hd2, r2, hf2⟩
  by_cases hlt : i < xs.length
  · -- one more turn
    have hx : xs[i]? = some xs[i] := List.getElem?_eq_getElem hlt
    obtain ⟨go, yl⟩ := wk.turn i xs[i] hx αc Fc Sc H' x2 s2
    rw [List.drop_eq_getElem_cons hlt] at hf2
    unfold turns at hf2
    refine .inr ⟨go, Winv (i + 1) (xs.length - (i + 1)), fun H'' w => ⟨_, by omega, w⟩, fun v H2 y => ?_⟩
    obtain ⟨F2, x3, s3, r3⟩ := yl v H2 y
    have e3 := e1.ext (x2.trans x3)
    cases hb : bindT t xs[i] (Z.wipe ρ (own.map (·.2))) with
    | none =>
      rw [hb] at hf2
      rw [← hf2] at p1
      exact p1.elim
    | some ρ' =>
      rw [hb] at hf2
      simp only at hf2
      refine ⟨αc, F2, Sc, xs[i], Z.wipe ρ (own.map (·.2)), ρ', s3, e3.wipe _, r3, hb, fun σ' st => ⟨wipe_stored st hsub, αc, F2, ρ', Sc, s3, st.env, ?_⟩⟩
      have nope : (∀ o S', lcF fcond fe ρ' Sc ≠ .ok o S') → False := fun hno => by
        cases hq : lcF fcond fe ρ' Sc with
        | ok o S' => exact hno o S' hq
        | exc ee S' => rw [hq] at hf2; rw [← hf2] at p1; exact p1.elim
        | bad => rw [hq] at hf2; rw [← hf2] at p1; exact p1.elim
      cases hcd : fcond ρ' Sc with
      | bad => exact (nope fun o S' z => by simp [lcF, hcd, Res.bind] at z).elim
      | exc ee S' => exact (nope fun o S' z => by simp [lcF, hcd, Res.bind] at z).elim
      | ok b S3 =>
        intro b' α4 F4 H4 x4 s4 eb
        cases (show b = b' from eb)
        have x34 := x3.trans x4
        cases b with
        | false =>
          have hq : lcF fcond fe ρ' Sc = .ok none S3 := by simp [lcF, hcd, Res.bind]
          rw [hq] at hf2
          simp only at hf2
          rw [if_neg Bool.false_ne_true]
          obtain ⟨o4, hd4⟩ := o2.ext x34 hd2
          exact ⟨rfl, hlt, α4, F4, S3, acc, vs, x2.trans x34, s4, o4, hd4, r2.ext x34, hf2⟩
        | true =>
          rw [if_pos rfl]
          refine ⟨α4, F4, ρ', S3, s4, st.env.ext x4, ?_⟩
          cases hfe : fe ρ' S3 with
          | bad => exact (nope fun o S' z => by simp [lcF, hcd, hfe, Res.bind] at z).elim
          | exc ee S' => exact (nope fun o S' z => by simp [lcF, hcd, hfe, Res.bind] at z).elim
          | ok y S4 =>
            intro w α5 F5 H5 x5 s5 rw5
            have hq : lcF fcond fe ρ' Sc = .ok (some y) S4 := by simp [lcF, hcd, hfe, Res.bind]
            rw [hq] at hf2
            simp only at hf2
            by_cases hz : acc.length < most
            · rw [if_pos (by simpa using hz)] at hf2
              have x35 := x34.trans x5
              obtain ⟨o5, hd5⟩ := o2.ext x35 hd2
              refine ⟨vs, hd5, by rw [← r2.length, ← most_eq]; exact hz, rfl, hlt, α5, F5, S4, acc ++ [y], vs ++ [w], (x2.trans x35).oth hd0, s5.oth o5, o5, upd_same, (r2.ext x35).append (.cons rw5 .nil), hf2⟩
            · rw [if_neg (by simpa using hz)] at hf2
              rw [← hf2] at p1
              exact p1.elim
  · -- the end
    have hi2 : i = xs.length := by omega
    subst hi2
    rw [List.drop_length] at hf2
    unfold turns at hf2
    rw [← hf2] at p1
    refine .inl ⟨wk.done αc Fc Sc H' x2 s2, ?_⟩
    obtain ⟨s6, x6⟩ := unlock_opt s1 lkok x2 s2
    have o6 : Oth αc Fc (unlock Sc lk) d0 := by
      refine ⟨o2.f, fun n l z => ?_⟩
      obtain ⟨c, hc, hcd⟩ := l
      obtain ⟨u, hu⟩ := s6.there ⟨c, hc, hcd⟩
      by_cases hn : Live Sc n
      · exact o2.c n hn z
      · cases lk with
        | none => exact hn ⟨c, hc, hcd⟩
        | some q =>
          obtain ⟨h1, h2⟩ := lkok q.1 q.2 rfl
          have ne : q.1 = n := by
            by_cases z2 : q.1 = n
            · exact z2
            · have hc : (Sc.set q.1 q.2)[n]? = some c := hc
              rw [List.getElem?_set_ne z2] at hc
              exact absurd ⟨c, hc, hcd⟩ hn
          obtain ⟨v, hv⟩ := s1.there ⟨q.2, h1, h2⟩
          have hl : q.1 < S1.length := (List.getElem?_eq_some_iff.mp h1).1
          rw [← ne, x6.al q.1 hl] at z
          rw [z, hd0] at hv
          cases hv
    exact fin_made (cell := cell) p1 x6 s6 hd0 o6 hd2 (by
      have : (unlock Sc lk).length = Sc.length := by cases lk <;> simp [unlock]
      rw [this]; exact r2)

theorem de_lc {iter elt : Expr} {ifs : List Expr} {scope : Scope} {own : List (Str × Nat)} {cell : Bool} {t : Tg} {fi : Env → Sto → Res (List Vl × Option (Nat × Cell))} {fcond : Env → Sto → Res Bool} {fe : Env → Sto → Res Vl}
    (hc : X.calm = true) (hN : X.N.Nodup) (hi : PI X tg iter (tDI W Es fi)) (ok : BlkOk X.N X.env.scope scope own)
    (hg : ∀ (s : Shared) (H : Hp) (C : Addr) (cl : List (Str × Addr)) (fp : List Addr), PG (X.blk s H scope (compEnvC scope cl C X.env) fp) tg (gD W t))
    (ht : ∀ (s : Shared) (H : Hp) (C : Addr) (cl : List (Str × Addr)) (fp : List Addr), PTs (X.blk s H scope (compEnvC scope cl C X.env) fp) ifs (tDT W Es0 fcond))
    (he : ∀ (s : Shared) (H : Hp) (C : Addr) (cl : List (Str × Addr)) (fp : List Addr), PE (X.blk s H scope (compEnvC scope cl C X.env) fp) elt (tD W Es0 fe))
    (hs : ∀ x, foldedSetIterable iter X.env x = pure x) (hsub : ∀ i ∈ t.slots, i ∈ own.map (·.2)) :
    PE X (.ListComp elt [⟨tg, iter, ifs, 0⟩] scope pos) (tD W Es (lcAll cell t (own.map (·.2)) fi fcond fe)) :=
  peI (pe_lc hc hN hi ok hg ht he hs) fun σ H Q h => lc_read hsub h

/-! ### dict comprehensions, set comprehensions -/
def cF {B : Type} (fcond : Env → Sto → Res Bool) (fe : Env → Sto → Res B) : Env → Sto → Res (Option B) := fun ρ S => (fcond ρ S).bind fun b S => if b then (fe ρ S).bind fun y S => .ok (some y) S else .ok none S
/-- the loop of a comprehension, whatever it puts its things into: OR tells how that lies in the heap -/
theorem comp_loop {A B : Type} {put : A → B → Option A} {OR : (Nat → Addr) → Hp → Nat → A → HO → Prop} (mono : ∀ {α F S H α' F' S' H' acc o}, Ext α F S H α' F' S' H' → OR α F S.length acc o → OR α' F' S'.length acc o)
    {own : List (Str × Nat)} {t : Tg} {fcond : Env → Sto → Res Bool} {fe : Env → Sto → Res B} (hsub : ∀ i ∈ t.slots, i ∈ own.map (·.2)) {ρ : Env} {σ : L2.St} {d0 : Addr} {xs : List Vl} {lk : Option (Nat × Cell)} {J : It} {a0 : A} {o0 : HO} {H1 : Hp} {elt : L2.St → Hp → (Hp → Prop) → Prop} {α1 : Nat → Addr} {F1 : Hp} {S1 : Sto} {K : A → Sto → Res Vl} {Qf : Hp → Prop} {Q : VK}
    (s1 : Sr W α1 F1 S1 H1) (er : EnvR W α1 F1 S1.length ρ σ) (wk : Walk W J xs α1 F1 (lock S1 lk) H1) (lkok : ∀ n c, lk = some (n, c) → S1[n]? = some c ∧ c ≠ .dead) (hd0 : H1 d0 = none) (h0 : OR α1 F1 (lock S1 lk).length a0 o0)
    (p1 : Post W E (VlX W) α1 F1 S1 H1 ((turnsG put (cF fcond fe) t (Z.wipe ρ (own.map (·.2))) xs a0 (lock S1 lk)).bind K) Q)
    (hE : ∀ {σ2 H3 Nx αc Fc ρ' S3 acc acc' y S4}, Sr W αc Fc S3 H3 → EnvR W αc Fc S3.length ρ' σ2 → fe ρ' S3 = .ok y S4 → put acc y = some acc' →
      (∀ α5 F5 H5, Ext αc Fc S3 H3 α5 F5 S4 H5 → Sr W α5 F5 S4 H5 → ∃ o, H5 d0 = some o ∧ OR α5 F5 S4.length acc o ∧ ∀ o', OR α5 F5 S4.length acc' o' → Nx (upd H5 d0 o')) → elt σ2 H3 Nx)
    (hQ : ∀ {αc Fc Sc H' acc o}, Ext α1 F1 S1 H1 αc Fc (unlock Sc lk) H' → Sr W αc Fc (unlock Sc lk) H' → Oth αc Fc (unlock Sc lk) d0 → H' d0 = some o → OR αc Fc (unlock Sc lk).length acc o → Post W E (VlX W) α1 F1 S1 H1 (K acc Sc) Q → Qf H') :
    ∃ Winv : Nat → Nat → Hp → Prop, (∃ m, Winv 0 m (upd H1 d0 o0)) ∧ ∀ i m H, Winv i m H → (J.stop i H ∧ Qf H) ∨ (J.go i H ∧ ∃ Nx : Hp → Prop, (∀ H', Nx H' → ∃ m', m' < m ∧ Winv (i + 1) m' H') ∧
      ∀ x H', J.yld i H x H' → gD W t x (L2.wipe σ (own.map (·.2))) H' fun σ2 H2 => L2.wipe σ2 (own.map (·.2)) = L2.wipe σ (own.map (·.2)) ∧ tDT W Es0 fcond σ2 H2 fun b H3 => if b = true then elt σ2 H3 Nx else Nx H3) := by
  have s1l : Sr W α1 F1 (lock S1 lk) H1 := lock_sr s1 fun n c h => (lkok n c h).1
  have e1 : EnvR W α1 F1 (lock S1 lk).length ρ σ := by rw [lock_len]; exact er
  generalize hfull : turnsG put (cF fcond fe) t (Z.wipe ρ (own.map (·.2))) xs a0 (lock S1 lk) = full at p1
  refine ⟨fun i m H' => m = xs.length - i ∧ i ≤ xs.length ∧ ∃ αc Fc Sc acc o, Ext α1 F1 (lock S1 lk) H1 αc Fc Sc H' ∧ Sr W αc Fc Sc H' ∧ Oth αc Fc Sc d0 ∧ H' d0 = some o ∧ OR αc Fc Sc.length acc o ∧
    turnsG put (cF fcond fe) t (Z.wipe ρ (own.map (·.2))) (xs.drop i) acc Sc = full, ⟨xs.length, rfl, Nat.zero_le _, α1, F1, lock S1 lk, a0, o0, Ext.refl.oth hd0, s1l.oth (s1l.oth0 hd0), s1l.oth0 hd0, upd_same, h0, hfull⟩, ?_⟩
  rintro i m H' ⟨rfl, hi', αc, Fc, Sc, acc, o, x2, s2, o2, hd2, r2, hf2⟩
  by_cases hlt : i < xs.length
  · have hx : xs[i]? = some xs[i] := List.getElem?_eq_getElem hlt
    obtain ⟨go, yl⟩ := wk.turn i xs[i] hx αc Fc Sc H' x2 s2
    rw [List.drop_eq_getElem_cons hlt] at hf2
    unfold turnsG at hf2
    refine .inr ⟨go, fun H'' => xs.length - (i + 1) = xs.length - (i + 1) ∧ i + 1 ≤ xs.length ∧ ∃ αc Fc Sc acc o, Ext α1 F1 (lock S1 lk) H1 αc Fc Sc H'' ∧ Sr W αc Fc Sc H'' ∧ Oth αc Fc Sc d0 ∧ H'' d0 = some o ∧ OR αc Fc Sc.length acc o ∧
      turnsG put (cF fcond fe) t (Z.wipe ρ (own.map (·.2))) (xs.drop (i + 1)) acc Sc = full, fun H'' w => ⟨_, by omega, w⟩, fun v H2 y => ?_⟩
    obtain ⟨F2, x3, s3, r3⟩ := yl v H2 y
    have e3 := e1.ext (x2.trans x3)
    cases hb : bindT t xs[i] (Z.wipe ρ (own.map (·.2))) with
    | none =>
      rw [hb] at hf2
      rw [← hf2] at p1
      exact p1.elim
    | some ρ' =>
      rw [hb] at hf2
      simp only at hf2
      refine ⟨αc, F2, Sc, xs[i], Z.wipe ρ (own.map (·.2)), ρ', s3, e3.wipe _, r3, hb, fun σ' st => ⟨wipe_stored st hsub, αc, F2, ρ', Sc, s3, st.env, ?_⟩⟩
      have nope : (∀ o S', cF fcond fe ρ' Sc ≠ .ok o S') → False := fun hno => by
        cases hq : cF fcond fe ρ' Sc with
        | ok o S' => exact hno o S' hq
        | exc ee S' => rw [hq] at hf2; rw [← hf2] at p1; exact p1.elim
        | bad => rw [hq] at hf2; rw [← hf2] at p1; exact p1.elim
      cases hcd : fcond ρ' Sc with
      | bad => exact (nope fun o S' z => by simp [cF, hcd, Res.bind] at z).elim
      | exc ee S' => exact (nope fun o S' z => by simp [cF, hcd, Res.bind] at z).elim
      | ok b S3 =>
        intro b' α4 F4 H4 x4 s4 eb
        cases (show b = b' from eb)
        have x34 := x3.trans x4
        cases b with
        | false =>
          have hq : cF fcond fe ρ' Sc = .ok none S3 := by simp [cF, hcd, Res.bind]
          rw [hq] at hf2
          simp only at hf2
          rw [if_neg Bool.false_ne_true]
          obtain ⟨o4, hd4⟩ := o2.ext x34 hd2
          exact ⟨rfl, hlt, α4, F4, S3, acc, o, x2.trans x34, s4, o4, hd4, mono x34 r2, hf2⟩
        | true =>
          rw [if_pos rfl]
          cases hfe : fe ρ' S3 with
          | bad => exact (nope fun o S' z => by simp [cF, hcd, hfe, Res.bind] at z).elim
          | exc ee S' => exact (nope fun o S' z => by simp [cF, hcd, hfe, Res.bind] at z).elim
          | ok y S4 =>
            have hq : cF fcond fe ρ' Sc = .ok (some y) S4 := by simp [cF, hcd, hfe, Res.bind]
            rw [hq] at hf2
            simp only at hf2
            cases hp : put acc y with
            | none => rw [hp] at hf2; rw [← hf2] at p1; exact p1.elim
            | some acc' =>
              rw [hp] at hf2
              simp only at hf2
              refine hE s4 (st.env.ext x4) hfe hp fun α5 F5 H5 x5 s5 => ?_
              have x35 := x34.trans x5
              obtain ⟨o5, hd5⟩ := o2.ext x35 hd2
              exact ⟨o, hd5, mono x35 r2, fun o' r' => ⟨rfl, hlt, α5, F5, S4, acc', o', (x2.trans x35).oth hd0, s5.oth o5, o5, upd_same, r', hf2⟩⟩
  · have hi2 : i = xs.length := by omega
    subst hi2
    rw [List.drop_length] at hf2
    unfold turnsG at hf2
    rw [← hf2] at p1
    refine .inl ⟨wk.done αc Fc Sc H' x2 s2, ?_⟩
    obtain ⟨s6, x6⟩ := unlock_opt s1 lkok x2 s2
    have o6 : Oth αc Fc (unlock Sc lk) d0 := by
      refine ⟨o2.f, fun n l z => ?_⟩
      obtain ⟨c, hc, hcd⟩ := l
      obtain ⟨u, hu⟩ := s6.there ⟨c, hc, hcd⟩
      by_cases hn : Live Sc n
      · exact o2.c n hn z
      · cases lk with
        | none => exact hn ⟨c, hc, hcd⟩
        | some q =>
          obtain ⟨h1, h2⟩ := lkok q.1 q.2 rfl
          have ne : q.1 = n := by
            by_cases z2 : q.1 = n
            · exact z2
            · have hc : (Sc.set q.1 q.2)[n]? = some c := hc
              rw [List.getElem?_set_ne z2] at hc
              exact absurd ⟨c, hc, hcd⟩ hn
          obtain ⟨v, hv⟩ := s1.there ⟨q.2, h1, h2⟩
          have hl : q.1 < S1.length := (List.getElem?_eq_some_iff.mp h1).1
          rw [← ne, x6.al q.1 hl] at z
          rw [z, hd0] at hv
          cases hv
    refine hQ x6 s6 o6 hd2 ?_ p1
    have : (unlock Sc lk).length = Sc.length := by cases lk <;> simp [unlock]
    rw [this]; exact r2
/-- the dict that was made becomes the answer -/
theorem fin_dct {cell t : Bool} {α0 : Nat → Addr} {F0 : Hp} {S0 : Sto} {H0 : Hp} {d0 : Addr} {kvs : List (D × Vl)} {ws : List V} (p : Post W E (VlX W) α0 F0 S0 H0 (newDct t cell kvs S) Q) (x : Ext α0 F0 S0 H0 α F S H) (s : Sr W α F S H) (hd : H0 d0 = none) (o : Oth α F S d0)
    (h : DctR H d0 t (kvs.map (·.1)) ws) (r : VlRs W α F S.length (kvs.map (·.2)) ws) : Q (.ref d0) H := by
  obtain ⟨u, hu, go⟩ := h.at
  unfold newDct at p
  split at p
  · refine p _ _ _ _ (x.adoptC hd) (s.adoptC o hu (c := .dct t kvs) ⟨ws, h, r.mono (fun n hn => adr_ne (Nat.ne_of_lt hn)) (Nat.le_succ _) (Sub.refl F)⟩) ⟨by rw [adr_same], by simp⟩
  · split at p
    · rename_i ds hp
      exact p _ _ _ _ (x.adoptF hd o.f) (s.adoptF o hu) ⟨d0, ws, rfl, go _ upd_same, Rps.mono (fun a v q => by rw [upd_ne (ne_of_none q o.f)]; exact q) (r.pures hp)⟩
    · exact p.elim
/-- a dict of ints and texts in the heap -/
def OrD (W : Wd) (α : Nat → Addr) (F : Hp) (N : Nat) (acc : List (D × Vl)) (o : HO) : Prop := ∃ (kk : List Key) (ws : List V), (acc.map (·.1)).map keyK = kk.map some ∧ kk.length = ws.length ∧ o = .dK (kk.zip ws) ∧ VlRs W α F N (acc.map (·.2)) ws
theorem OrD.put {N : Nat} {acc : List (D × Vl)} {k : D} {x : Vl} {u w : V} {kvs : List (Key × V)} (r : OrD W α F N acc (.dK kvs)) (hk : keyOk false k = true) (rk : Rp W F k u) (rx : VlR W α F N x w) : ∃ c, u = kV c ∧ OrD W α F N (kvPut acc k x) (.dK (putK kvs c w)) := by
  obtain ⟨c, hc⟩ : ∃ c, keyK k = some c := by cases k <;> simp [keyOk] at hk <;> exact ⟨_, rfl⟩
  obtain ⟨kk, ws, h1, h2, e, h3⟩ := r
  cases e
  obtain ⟨kk', ws', e1, e2, e3, e4⟩ := put_rel (fun h1 h2 => eqv_keyK h1 h2) hc rx h1 h2 h3
  exact ⟨c, key_flat hc rk, kk', ws', e2, e3, by rw [e1], e4⟩
def dcAll (cell : Bool) (t : Tg) (own : List Nat) (fi : Env → Sto → Res (List Vl × Option (Nat × Cell))) (fcond : Env → Sto → Res Bool) (fk fv : Env → Sto → Res Vl) : Env → Sto → Res Vl := fun ρ S =>
  (fi ρ S).bind fun q S => (turnsG putD (cF fcond fun ρ S => (fk ρ S).bind fun y S => (fv ρ S).bind fun z S => keyVal y z S) t (Z.wipe ρ own) q.1 [] (lock S q.2)).bind fun ys S => newDct false cell ys (unlock S q.2)
theorem dc_read {own : List (Str × Nat)} {cell : Bool} {t : Tg} {fi : Env → Sto → Res (List Vl × Option (Nat × Cell))} {fcond : Env → Sto → Res Bool} {fk fv : Env → Sto → Res Vl} (hsub : ∀ i ∈ t.slots, i ∈ own.map (·.2))
    {σ : L2.St} {H : Hp} {Q : VK} (h : tD W Es (dcAll cell t (own.map (·.2)) fi fcond fk fv) σ H Q) : tDc (tDI W Es fi) (gD W t) (tDT W Es0 fcond) (tD W Es0 fk) (tD W Es0 fv) (own.map (·.2)) σ H Q := by
  obtain ⟨α, F, ρ, S, s, er, p⟩ := h
  refine ⟨α, F, ρ, S, s, er, (Post.bind (Rel := WalkR W) p).imp fun J H1 ⟨α1, F1, q, S1, x1, s1, ⟨wk, lkok⟩, p1⟩ => ?_⟩
  intro d0 hd0
  refine comp_loop (put := putD) (OR := OrD W) (elt := fun σ2 H3 Nx => tD W Es0 fk σ2 H3 fun y H4 => tD W Es0 fv σ2 H4 fun z H5 => ∃ kvs k, y = kV k ∧ H5 d0 = some (.dK kvs) ∧ kvs.length < sizeLine ∧ Nx (upd H5 d0 (.dK (putK kvs k z)))) (Qf := fun H => Q (.ref d0) H)
    (fun x ⟨kk, ws, h1, h2, h3, h4⟩ => ⟨kk, ws, h1, h2, h3, h4.ext x⟩) hsub s1 (er.ext x1) wk lkok hd0 ⟨[], [], rfl, rfl, rfl, .nil⟩ p1 ?_ ?_
  · intro σ2 H3 Nx αc Fc ρ' S3 acc acc' y S4 s3 e3 hfe hp k
    refine ⟨αc, Fc, ρ', S3, s3, e3, ?_⟩
    cases h1 : fk ρ' S3 with
    | bad => rw [h1] at hfe; cases hfe
    | exc ee S' => rw [h1] at hfe; cases hfe
    | ok yk S5 =>
      rw [h1] at hfe
      simp only [Res.bind] at hfe
      intro u α4 F4 H4 x4 s4 r4
      refine ⟨α4, F4, ρ', S5, s4, e3.ext x4, ?_⟩
      cases h2 : fv ρ' S5 with
      | bad => rw [h2] at hfe; cases hfe
      | exc ee S' => rw [h2] at hfe; cases hfe
      | ok yv S6 =>
        rw [h2] at hfe
        intro w α5 F5 H5 x5 s5 r5
        have r4 := r4.ext x5
        cases yk with
        | p n => cases hfe
        | d kd =>
          cases hfe
          obtain ⟨o, ho, ro, nx⟩ := k α5 F5 H5 (x4.trans x5) s5
          unfold putD at hp
          split at hp
          · rename_i hz
            rw [Bool.and_eq_true] at hz
            cases hp
            obtain ⟨kk, ws, q1, q2, rfl, q4⟩ := ro
            obtain ⟨c, ec, rc⟩ := OrD.put ⟨kk, ws, q1, q2, rfl, q4⟩ hz.1 r4 r5
            exact ⟨_, c, ec, ho, by rw [dct_len q1 q2, ← most_eq]; exact of_decide_eq_true hz.2, nx _ rc⟩
          · cases hp
  · intro αc Fc Sc H' acc o x6 s6 o6 ho ⟨kk, ws, q1, q2, e, q4⟩ p6
    subst e
    exact fin_dct p6 x6 s6 hd0 o6 (.inl ⟨rfl, kk, q1, q2, ho⟩) q4
theorem de_dc {iter ke ve : Expr} {ifs : List Expr} {scope : Scope} {own : List (Str × Nat)} {cell : Bool} {t : Tg} {fi : Env → Sto → Res (List Vl × Option (Nat × Cell))} {fcond : Env → Sto → Res Bool} {fk fv : Env → Sto → Res Vl}
    (hc : X.calm = true) (hN : X.N.Nodup) (hi : PI X tg iter (tDI W Es fi)) (ok : BlkOk X.N X.env.scope scope own)
    (hg : ∀ (s : Shared) (H : Hp) (C : Addr) (cl : List (Str × Addr)) (fp : List Addr), PG (X.blk s H scope (compEnvC scope cl C X.env) fp) tg (gD W t))
    (ht : ∀ (s : Shared) (H : Hp) (C : Addr) (cl : List (Str × Addr)) (fp : List Addr), PTs (X.blk s H scope (compEnvC scope cl C X.env) fp) ifs (tDT W Es0 fcond))
    (hk : ∀ (s : Shared) (H : Hp) (C : Addr) (cl : List (Str × Addr)) (fp : List Addr), PE (X.blk s H scope (compEnvC scope cl C X.env) fp) ke (tD W Es0 fk))
    (hv : ∀ (s : Shared) (H : Hp) (C : Addr) (cl : List (Str × Addr)) (fp : List Addr), PE (X.blk s H scope (compEnvC scope cl C X.env) fp) ve (tD W Es0 fv))
    (hs : ∀ x, foldedSetIterable iter X.env x = pure x) (hsub : ∀ i ∈ t.slots, i ∈ own.map (·.2)) :
    PE X (.DictComp ke ve [⟨tg, iter, ifs, 0⟩] scope pos) (tD W Es (dcAll cell t (own.map (·.2)) fi fcond fk fv)) :=
  peI (pe_dc hc hN hi ok hg ht hk hv hs) fun σ H Q h => dc_read hsub h

/-- {e for ..} of ints: what its reading asks -/
def tSi (w : World) (wi : TI) (g : TG) (tt : TT) (te : TE) (vs : List Nat) : TE := fun σ H Q => wi σ H fun J H1 => ∀ d0, H1 d0 = none → ∃ Wn : Nat → Nat → Hp → Prop, (∃ m, Wn 0 m (upd H1 d0 (SetO w d0 (fun _ => false) 0))) ∧ ∀ i m H, Wn i m H →
  (J.stop i H ∧ Q (.ref d0) H) ∨ (J.go i H ∧ ∃ Nx : Hp → Prop, (∀ H', Nx H' → ∃ m', m' < m ∧ Wn (i + 1) m' H') ∧ ∀ x H', J.yld i H x H' → g x (L2.wipe σ vs) H' fun σ2 H2 => L2.wipe σ2 vs = L2.wipe σ vs ∧ tt σ2 H2 fun b H3 =>
    if b = true then te σ2 H3 fun y H4 => ∃ (c : Int) (M : Int → Bool) (n : Nat), y = .int c ∧ H4 d0 = some (SetO w d0 M n) ∧ n + 1 < scanBound ∧ Nx (upd H4 d0 (SetO w d0 (fun j => M j || decide (j = c)) (if M c = true then n else n + 1))) else Nx H3)
/-- a member comes to a set -/
theorem set_add_int {E' : Value → Shared → Prop} {pins : List (Addr × Obj)} {σ : L2.St} {s : Shared} {d0 : Addr} {M : Int → Bool} {n : Nat} {c : Int} {tk : Tok} {R : Value → Shared → Prop} (I : Inv X pins σ H s) (hd : H d0 = some (SetO X.w d0 M n)) (room : n + 1 < scanBound)
    (k : ∀ s', Inv X pins σ (upd H d0 (SetO X.w d0 (fun j => M j || decide (j = c)) (if M c = true then n else n + 1))) s' → R .none s') : wpAny (model X.prog X.w) X.A (call (.builtin "set.add") [.ref d0, .int c tk]) R E' s :=
  setR_add (setO_get I hd) room fun h2 same new2 => k _ (I.write (e := d0) (t' := s.toks + 1) (by rw [hd]; trivial) (.inl rfl) (fun b u nb q => (same.2 b nb).trans q) (by obtain ⟨ob, _, _, _, q, _⟩ := new2; exact ⟨ob, q⟩) (setO_new new2))
theorem pe_si {elt iter : Expr} {ifs : List Expr} {scope : Scope} {own : List (Str × Nat)} {wi : TI} {g : TG} {tt : TT} {te : TE} (calm : X.calm = true) (nd : X.N.Nodup) (walked : PI X tg iter wi) (ok : BlkOk X.N X.env.scope scope own)
    (hg : ∀ (s : Shared) (H : Hp) (C : Addr) (cl : List (Str × Addr)) (fp : List Addr), PG (X.blk s H scope (compEnvC scope cl C X.env) fp) tg g)
    (ht : ∀ (s : Shared) (H : Hp) (C : Addr) (cl : List (Str × Addr)) (fp : List Addr), PTs (X.blk s H scope (compEnvC scope cl C X.env) fp) ifs tt)
    (he : ∀ (s : Shared) (H : Hp) (C : Addr) (cl : List (Str × Addr)) (fp : List Addr), PE (X.blk s H scope (compEnvC scope cl C X.env) fp) elt te) (hs : ∀ x, foldedSetIterable iter X.env x = pure x) :
    PE X (.SetComp elt [⟨tg, iter, ifs, 0⟩] scope pos) (tSi X.w wi g tt te (own.map (·.2))) := by
  refine ⟨fun pins s0 σ H Q I0 asked => ?_⟩
  rw [PpSet.eval_SetComp]
  have names : ∀ y ∈ scope.names, y.2 = .free → ∃ c, X.env.cells.lookup y.1 = some c := fun y hy e => I0.ok.has _ (ok.free y hy e)
  refine wpAny_comprehension_free (use := none) rfl hs (closure_ok names) ok.kind (fun y hy e => by rw [ok.uniq y hy, e]) (thn (walked.run pins s0 σ H _ I0 asked) fun xv sa ha => thn ha fun itv sb hb => ?_)
  obtain ⟨it, fp, At, J, Ha, rfl, Ia, Tn, here, apart, q⟩ := hb
  refine PpSet.newSet_ok (newEnv_comp ?_)
  generalize hD : sb.heap.objs.size = D
  obtain ⟨Wn, ⟨m0, w0⟩, turn⟩ := q D (Ia.hok.fresh (Nat.le_of_eq hD))
  generalize hsc : ({ sb with heap := sb.heap.push { cls := .type "set", dict := none, data := .set #[] 0 (.fresh 0 0 (!X.w.params.followText "set-order")) } } : Shared) = sc
  have hheap : sc.heap = sb.heap.push { cls := .type "set", dict := none, data := .set #[] 0 (.fresh 0 0 (!X.w.params.followText "set-order")) } := by rw [← hsc]
  have Ic : Inv X pins σ (upd Ha D (SetO X.w D (fun _ => false) 0)) sc := by
    subst hsc hD
    exact Ia.laid (t' := sb.toks) (fun b o e => Heap.get?_push_of_some _ e) (Nat.le_refl _) (setO_new (setR_fresh X.w))
  have small : ∀ b ∈ fp, b < sb.heap.objs.size := fun b hb => by
    obtain ⟨o, e, _⟩ := Tn.obj _ _ here b hb
    exact Heap.lt_size e
  have free : ∀ b ∈ fp, FpOk X pins (upd Ha D (SetO X.w D (fun _ => false) 0)) b ∧ b < sc.heap.objs.size := fun b hb => by
    refine ⟨⟨?_, (apart b hb).2⟩, by rw [hheap, Heap.size_push]; exact Nat.lt_succ_of_lt (small b hb)⟩
    rw [upd_ne (by rw [← hD]; exact Nat.ne_of_lt (small b hb))]
    exact (apart b hb).1
  have here1 : At 0 sc.heap := Tn.keep _ _ _ here fun b _ o e => by rw [hheap]; exact Heap.get?_push_of_some _ e
  have Id := block_start Ic ok nd free
  generalize hHc : upd Ha D (SetO X.w D (fun _ => false) 0) = Hc at Ic Id w0 free
  have pg := hg sc Hc sc.heap.objs.size (cellsFrom (sc.heap.objs.size + 1) scope.names (cloFrom X.env.cells scope.names [])) fp
  have pt := ht sc Hc sc.heap.objs.size (cellsFrom (sc.heap.objs.size + 1) scope.names (cloFrom X.env.cells scope.names [])) fp
  have pe := he sc Hc sc.heap.objs.size (cellsFrom (sc.heap.objs.size + 1) scope.names (cloFrom X.env.cells scope.names [])) fp
  show codeAny _ _ (.compStart (.SetComp elt [⟨tg, iter, ifs, 0⟩] scope pos) 0 (.ref it) (.ref D) (compEnvC scope (cellsFrom (sc.heap.objs.size + 1) scope.names (cloFrom X.env.cells scope.names [])) sc.heap.objs.size X.env))
    (compPost (model X.prog X.w) X.A X.xe none (EP X pins σ Q) (.ref D) sc.heap.objs.size) { sc with heap := pushCells (sc.heap.push { cls := .type "dict", data := .dict #[] }) scope.names }
  generalize hce : compEnvC scope (cellsFrom (sc.heap.objs.size + 1) scope.names (cloFrom X.env.cells scope.names [])) sc.heap.objs.size X.env = ce at Id pg pt pe ⊢
  have locals : ce.locals = sc.heap.objs.size := by subst hce; rfl
  generalize hsd : ({ sc with heap := pushCells (sc.heap.push { cls := .type "dict", data := .dict #[] }) scope.names } : Shared) = sd at Id ⊢
  have here2 : At 0 sd.heap := Tn.keep _ _ _ here1 fun b _ o e => by
    rw [← hsd]
    exact pushCells_keeps _ _ _ _ (Heap.get?_push_of_some _ e)
  have ours : ∀ {σ' : L2.St} {H' : Hp} {s' : Shared}, Inv (X.blk sc Hc scope ce fp) [] σ' H' s' → (∀ b ∈ fp, H' b = none) → ∀ b ∈ fp, FpOk (X.blk sc Hc scope ce fp) [] H' b := fun {σ' H' s'} J' none' b hb =>
    ⟨none' b hb, (J'.ok.exf b hb).1, J'.ok.exfs b hb, .inl hb, fun x c e => (J'.ok.exf b hb).2 x c e, fun p hp => by cases hp⟩
  have loop : codeAny (model X.prog X.w) X.A (.compLoop (.SetComp elt [⟨tg, iter, ifs, 0⟩] scope pos) 0 (.ref it) (.ref D) ce) (compPost (model X.prog X.w) X.A X.xe none (EP X pins σ Q) (.ref D) sc.heap.objs.size) sd := by
    refine PpSet.compLoopS_any (fun n s' => ∃ i H', Inv (X.blk sc Hc scope ce fp) [] (L2.wipe σ (own.map (·.2))) H' s' ∧ At i s'.heap ∧ (∀ b ∈ fp, H' b = none) ∧ Wn i n H') ?_ m0 ⟨0, Hc, Id, here2, fun b hb => (free b hb).1.1, w0⟩
    rintro n se ⟨i, He, Ie, ate, nne, we⟩
    rcases turn i n He we with ⟨stop, fin⟩ | ⟨go, Nx, less, step⟩
    · refine thnF (Tn.done (X.blk sc Hc scope ce fp) rfl rfl rfl calm i [] se _ He (fun _ _ => False) Ie (ours Ie nne) ate stop) fun r sf ⟨hr, If⟩ => ?_
      subst hr
      have Ig : Inv X pins σ He sf := Ic.call' (ch := fp) If.os If.base If.hok If.bare fun b hb => ⟨(free b hb).1.2.2.2.1, (free b hb).1.2.1, (free b hb).1.2.2.2.2.1, (free b hb).1.2.2.2.2.2⟩
      have away : He sc.heap.objs.size = none := by rw [← locals]; exact If.free
      obtain ⟨m, ns, _⟩ := If.loc
      have ns : sf.heap.Ns ce.locals m := ns
      rw [locals] at ns
      obtain ⟨g0, g1, g2, g3, g4, g5⟩ := Ic.fpOk (Nat.le_refl _) away
      exact ⟨m, ns, fun h'' same => ⟨.ref D, He, Ig.turned (t' := sf.toks) (fun b o nb e => (same.2 b nb).trans e) g0 g1 g3 g4 g5, rfl, fin⟩⟩
    · refine thnF (Tn.item (X.blk sc Hc scope ce fp) rfl rfl rfl calm i [] se _ He (fun _ _ => False) Ie (ours Ie nne) ate go) fun r sf ⟨u, hr, got⟩ => ?_
      subst hr
      refine thnF got fun _ sg ⟨x, Hg, Ig, rg, yg, atg, nng⟩ => ?_
      have Ig' := Ig.pinned (ours Ig nng) (Tn.obj _ _ atg)
      refine thnF (pg.run _ sg _ Hg x u _ Ig' rg (step x Hg yg)) fun _ sh ⟨σh, Hh, Ih, wiped, qh⟩ => ?_
      refine thnF (pt.run _ sh σh Hh _ Ih qh) fun b si ⟨Hi, Ii, qi⟩ => ?_
      have again : ∀ {s' : Shared} {H' : Hp}, Inv (X.blk sc Hc scope ce fp) ([] ++ pinsAt fp sg.heap) σh H' s' → Nx H' → ∃ m, m < n ∧ ∃ i H', Inv (X.blk sc Hc scope ce fp) [] (L2.wipe σ (own.map (·.2))) H' s' ∧ At i s'.heap ∧ (∀ b ∈ fp, H' b = none) ∧ Wn i m H' := fun {s' H'} J' nx => by
        obtain ⟨m', hm, w'⟩ := less H' nx
        have pinned : ∀ b ∈ fp, ∀ o, sg.heap.get? b = some o → s'.heap.get? b = some o ∧ H' b = none := fun b hb o e => by
          have z := J'.pin (b, o) (List.mem_append_right _ (List.mem_append_right _ (mem_pinsAt hb e)))
          exact ⟨z.1, z.2.1⟩
        refine ⟨m', hm, i + 1, H', (J'.unpinned (pins := [])).weak (by rw [← wiped, L2.wipe_length]) (fun j v e => ?_), Tn.keep _ _ _ atg fun b hb o e => (pinned b hb o e).1, fun b hb => ?_, w'⟩
        · rw [← wiped] at e
          exact (L2.wipe_some e).1
        · obtain ⟨o, e, _⟩ := Tn.obj _ _ atg b hb
          exact (pinned b hb o e).2
      cases b with
      | false => exact again Ii qi
      | true =>
        refine thnF (pe.run _ si σh Hi _ Ii qi) fun z sj ⟨yv, Hj, Ij, rj, c, M, n0, ey, hDj, hz, nx⟩ => ?_
        subst ey
        obtain ⟨tk, rfl⟩ := (show ∃ tk, z = Value.int c tk from rj)
        exact set_add_int (X := X.blk sc Hc scope ce fp) Ij hDj hz fun sk Ik => again Ik nx
  exact PpSet.codeAny_compStart_set loop (Tn.self X.A 0 _ _ _ here2 loop)

theorem sins_mem {x k : Int} : ∀ {l : List Int}, k ∈ sins x l ↔ k = x ∨ k ∈ l
  | [] => by simp [sins]
  | y :: l => by
    unfold sins
    split
    · simp
    · split
      · rename_i h; subst h; simp
      · rw [List.mem_cons, sins_mem, List.mem_cons]
        constructor
        · rintro (h | h | h)
          · exact .inr (.inl h)
          · exact .inl h
          · exact .inr (.inr h)
        · rintro (h | h | h)
          · exact .inr (.inl h)
          · exact .inl h
          · exact .inr (.inr h)
theorem sins_sorted {x : Int} : ∀ {l : List Int}, l.Pairwise (· < ·) → (sins x l).Pairwise (· < ·)
  | [], _ => by simp [sins]
  | y :: l, h => by
    have h' := List.pairwise_cons.mp h
    unfold sins
    split
    · rename_i hlt
      refine List.pairwise_cons.mpr ⟨fun z hz => ?_, h⟩
      rcases List.mem_cons.mp hz with rfl | hz
      · exact hlt
      · exact Int.lt_trans hlt (h'.1 z hz)
    · split
      · exact h
      · rename_i h1 h2
        refine List.pairwise_cons.mpr ⟨fun z hz => ?_, sins_sorted h'.2⟩
        rcases sins_mem.mp hz with rfl | hz
        · omega
        · exact h'.1 z hz
theorem sins_length {x : Int} : ∀ {l : List Int}, l.Pairwise (· < ·) → (sins x l).length = if x ∈ l then l.length else l.length + 1
  | [], _ => by simp [sins]
  | y :: l, h => by
    have h' := List.pairwise_cons.mp h
    unfold sins
    split
    · rename_i hlt
      have : x ∉ y :: l := fun hz => by
        rcases List.mem_cons.mp hz with rfl | hz
        · omega
        · have := h'.1 x hz; omega
      rw [if_neg this]; simp
    · split
      · rename_i e; subst e; simp
      · rename_i h1 h2
        rw [List.length_cons, sins_length h'.2]
        have : (x ∈ y :: l) ↔ x ∈ l := by rw [List.mem_cons]; exact ⟨fun z => z.resolve_left h2, .inr⟩
        by_cases hx : x ∈ l
        · rw [if_pos hx, if_pos (this.mpr hx)]; simp
        · rw [if_neg hx, if_neg fun z => hx (this.mp z)]; simp
theorem sorted_same : ∀ {l m : List Int}, l.Pairwise (· < ·) → m.Pairwise (· < ·) → (∀ k, k ∈ l ↔ k ∈ m) → l = m
  | [], [], _, _, _ => rfl
  | [], y :: m, _, _, h => by have := (h y).mpr (by simp); simp at this
  | x :: l, [], _, _, h => by have := (h x).mp (by simp); simp at this
  | x :: l, y :: m, h1, h2, h => by
    have a1 := List.pairwise_cons.mp h1
    have a2 := List.pairwise_cons.mp h2
    have e : x = y := by
      have hx := (h x).mp (by simp)
      have hy := (h y).mpr (by simp)
      rcases List.mem_cons.mp hx with e | hx
      · exact e
      · rcases List.mem_cons.mp hy with e | hy
        · exact e.symm
        · have := a2.1 x hx; have := a1.1 y hy; omega
    subst e
    rw [sorted_same a1.2 a2.2 fun k => ?_]
    have hk := h k
    rw [List.mem_cons, List.mem_cons] at hk
    by_cases e : k = x
    · subst e
      exact ⟨fun z => absurd (a1.1 k z) (Int.lt_irrefl _), fun z => absurd (a2.1 k z) (Int.lt_irrefl _)⟩
    · exact ⟨fun z => (hk.mp (.inr z)).resolve_left e, fun z => (hk.mpr (.inr z)).resolve_left e⟩
/-- a set of ints in the heap -/
def OrI (w : World) (d0 : Addr) (acc : List Int) (o : HO) : Prop := acc.Pairwise (· < ·) ∧ acc.length ≤ 63 ∧ ∃ M : Int → Bool, (∀ k, k ∈ acc ↔ M k = true) ∧ o = SetO w d0 M acc.length
def scAll (cell : Bool) (t : Tg) (own : List Nat) (fi : Env → Sto → Res (List Vl × Option (Nat × Cell))) (fcond : Env → Sto → Res Bool) (fe : Env → Sto → Res Vl) : Env → Sto → Res Vl := fun ρ S =>
  (fi ρ S).bind fun q S => (turnsG putI (cF fcond fe) t (Z.wipe ρ own) q.1 [] (lock S q.2)).bind fun ys S => newList cell (ys.map fun i => .d (.int i)) (unlock S q.2)
theorem int_vls {N : Nat} : ∀ ns : List Int, VlRs W α F N (ns.map fun i => .d (.int i)) (ns.map V.int)
  | [] => .nil
  | n :: ns => .cons rfl (int_vls ns)
theorem sc_read {own : List (Str × Nat)} {cell : Bool} {t : Tg} {fi : Env → Sto → Res (List Vl × Option (Nat × Cell))} {fcond : Env → Sto → Res Bool} {fe : Env → Sto → Res Vl} (hsub : ∀ i ∈ t.slots, i ∈ own.map (·.2))
    {σ : L2.St} {H : Hp} {Q : VK} (h : tD W Es (scAll cell t (own.map (·.2)) fi fcond fe) σ H Q) : tSi X.w (tDI W Es fi) (gD W t) (tDT W Es0 fcond) (tD W Es0 fe) (own.map (·.2)) σ H fun v H' => rSortedSet X.w [v] H' Q := by
  obtain ⟨α, F, ρ, S, s, er, p⟩ := h
  refine ⟨α, F, ρ, S, s, er, (Post.bind (Rel := WalkR W) p).imp fun J H1 ⟨α1, F1, q, S1, x1, s1, ⟨wk, lkok⟩, p1⟩ => ?_⟩
  intro d0 hd0
  refine comp_loop (put := putI) (OR := fun _ _ _ => OrI X.w d0) (elt := fun σ2 H3 Nx => tD W Es0 fe σ2 H3 fun y H4 => ∃ (c : Int) (M : Int → Bool) (n : Nat), y = .int c ∧ H4 d0 = some (SetO X.w d0 M n) ∧ n + 1 < scanBound ∧ Nx (upd H4 d0 (SetO X.w d0 (fun j => M j || decide (j = c)) (if M c = true then n else n + 1))))
    (Qf := fun H => rSortedSet X.w [.ref d0] H Q) (fun _ r => r) hsub s1 (er.ext x1) wk lkok hd0 ⟨List.Pairwise.nil, Nat.zero_le _, fun _ => false, by simp, rfl⟩ p1 ?_ ?_
  · intro σ2 H3 Nx αc Fc ρ' S3 acc acc' y S4 s3 e3 hfe hp k
    refine ⟨αc, Fc, ρ', S3, s3, e3, ?_⟩
    rw [hfe]
    intro u α4 F4 H4 x4 s4 r4
    obtain ⟨o, ho, ⟨h1, h2, M, hM, rfl⟩, nx⟩ := k α4 F4 H4 x4 s4
    unfold putI at hp
    split at hp
    · rename_i i
      split at hp
      · rename_i hz
        cases hp
        have hz := of_decide_eq_true hz
        refine ⟨i, M, acc.length, r4, ho, by unfold scanBound; omega, nx _ ⟨sins_sorted h1, ?_, fun j => M j || decide (j = i), fun j => ?_, ?_⟩⟩
        · rw [sins_length h1]; split <;> omega
        · rw [sins_mem, hM]; simp [or_comm]
        · rw [sins_length h1]
          by_cases hx : i ∈ acc
          · rw [if_pos hx, if_pos ((hM i).mp hx)]
          · rw [if_neg hx, if_neg fun z => hx ((hM i).mpr z)]
      · cases hp
    · cases hp
  · intro αc Fc Sc H' acc o x6 s6 o6 ho ⟨h1, h2, M, hM, e⟩ p6
    subst e
    refine ⟨d0, M, acc.length, rfl, ho, by omega, fun ns l hs hm hl hn => ?_⟩
    rw [sorted_same hs h1 fun k => (hm k).trans (hM k).symm]
    exact (fin_new (Post.rebase x6 p6) s6 (int_vls acc)).2 l hn
theorem boot_sorted' : bootBuiltins "sorted" = some (.builtin "sorted") := by decide +kernel
theorem de_sc {iter elt : Expr} {ifs : List Expr} {scope : Scope} {own : List (Str × Nat)} {cell : Bool} {t : Tg} {p1 p2 : Pos} {fi : Env → Sto → Res (List Vl × Option (Nat × Cell))} {fcond : Env → Sto → Res Bool} {fe : Env → Sto → Res Vl}
    (hc : X.calm = true) (hN : X.N.Nodup) (hgl : Gl X "sorted") (hm : X.mg "sorted" = none) (hi : PI X tg iter (tDI W Es fi)) (ok : BlkOk X.N X.env.scope scope own)
    (hg : ∀ (s : Shared) (H : Hp) (C : Addr) (cl : List (Str × Addr)) (fp : List Addr), PG (X.blk s H scope (compEnvC scope cl C X.env) fp) tg (gD W t))
    (ht : ∀ (s : Shared) (H : Hp) (C : Addr) (cl : List (Str × Addr)) (fp : List Addr), PTs (X.blk s H scope (compEnvC scope cl C X.env) fp) ifs (tDT W Es0 fcond))
    (he : ∀ (s : Shared) (H : Hp) (C : Addr) (cl : List (Str × Addr)) (fp : List Addr), PE (X.blk s H scope (compEnvC scope cl C X.env) fp) elt (tD W Es0 fe))
    (hs : ∀ x, foldedSetIterable iter X.env x = pure x) (hsub : ∀ i ∈ t.slots, i ∈ own.map (·.2)) :
    PE X (.Call (.Name "sorted" p1) [.SetComp elt [⟨tg, iter, ifs, 0⟩] scope p2] [] pos) (tD W Es (scAll cell t (own.map (·.2)) fi fcond fe)) :=
  peI (pe_callB (cr_sortedSet hc) hgl hm boot_sorted' (pa_cons (pe_si hc hN hi ok hg ht he hs) pa_nil)) fun σ H Q h => sc_read hsub h

/-! ### displays of dicts -/
def pairsV : List V → List (V × V)
  | k :: v :: r => (k, v) :: pairsV r
  | _ => []
/-- keys and values in turn -/
structure DPs (X : Cx) (W : Wd) (Es : SX) (pos : Pos) (keys : List (Option Expr)) (values : List Expr) (fs : Env → Sto → Res (List Vl)) : Prop where
  ex : ∃ trs, PPs X pos keys values trs ∧ ∀ σ H (Q : List (V × V) → Hp → Prop), (∃ α F ρ S, Sr W α F S H ∧ EnvR W α F S.length ρ σ ∧ Post W (Es σ) (VlXs W) α F S H (fs ρ S) fun vs H' => Q (pairsV vs) H') → tPairs trs σ H Q
theorem dps_nil : DPs X W Es pos [] [] nilF := ⟨_, pps_nil, fun σ H Q ⟨α, F, ρ, S, s, er, p⟩ => p.here s .nil⟩
theorem dps_cons {k v : Expr} {ks : List (Option Expr)} {vs : List Expr} (hk : PE X k (tD W Es fa)) (hv : PE X v (tD W Es fb)) (h : DPs X W Es pos ks vs fs) : DPs X W Es pos (some k :: ks) (v :: vs) (consF fa (consF fb fs)) := by
  obtain ⟨trs, h1, h2⟩ := h.ex
  refine ⟨_, pps_cons hk hv h1, fun σ H Q ⟨α, F, ρ, S, s, er, p⟩ => ⟨α, F, ρ, S, s, er, (Post.bind (Rel := VlX W) p).imp fun y H1 ⟨α1, F1, x, S1, x1, s1, r1, p1⟩ => ?_⟩⟩
  have p1 : Post W (Es σ) (VlXs W) α1 F1 S1 H1 ((consF fb fs ρ S1).bind fun vs S => .ok (x :: vs) S) fun vs H' => Q (pairsV vs) H' := p1
  have e : (consF fb fs ρ S1).bind (fun vs S => Res.ok (x :: vs) S) = (fb ρ S1).bind fun z S => (fs ρ S).bind fun vs S => .ok (x :: z :: vs) S := by
    unfold consF
    cases fb ρ S1 with
    | ok z S2 => simp only [Res.bind]; cases fs ρ S2 <;> rfl
    | _ => rfl
  rw [e] at p1
  refine ⟨α1, F1, ρ, S1, s1, er.ext x1, (Post.bind (Rel := VlX W) p1).imp fun z H2 ⟨α2, F2, zz, S2, x2, s2, r2, p2⟩ => h2 σ H2 _ ⟨α2, F2, ρ, S2, s2, (er.ext x1).ext x2, (Post.bind (Rel := VlXs W) p2).imp fun us H3 ⟨α3, F3, as, S3, x3, s3, r3, p3⟩ => ?_⟩⟩
  exact p3.here s3 (.cons (r1.ext (x2.trans x3)) (.cons (r2.ext x3) r3))
def dctF (t cell : Bool) (fs : Env → Sto → Res (List Vl)) : Env → Sto → Res Vl := fun ρ S => (fs ρ S).bind fun vs S => dispDct t cell vs S
theorem de_dct0 {t cell : Bool} : PE X (.Dict [] [] pos) (tD W Es (dctF t cell nilF)) := by
  cases t with
  | false =>
    refine peI pe_dnewK fun σ H Q ⟨α, F, ρ, S, s, er, p⟩ d0 hd => ?_
    exact fin_dct (kvs := []) (ws := []) p (Ext.refl.oth hd) (s.oth (s.oth0 hd)) hd (s.oth0 hd) (.inl ⟨rfl, [], rfl, rfl, upd_same⟩) .nil
  | true =>
    refine peI pe_dnewT fun σ H Q ⟨α, F, ρ, S, s, er, p⟩ d0 hd => ?_
    exact fin_dct (kvs := []) (ws := []) p (Ext.refl.oth hd) (s.oth (s.oth0 hd)) hd (s.oth0 hd) (.inr ⟨rfl, [], rfl, rfl, upd_same⟩) .nil
theorem pairUp_rel {N : Nat} : ∀ {as : List Vl} {us : List V} {kvs : List (D × Vl)}, VlRs W α F N as us → pairUp as = some kvs → kvs.all (fun kv => keyOk false kv.1) = true →
    ∃ kws : List (Key × V), pairsV us = kws.map (fun kv => (kV kv.1, kv.2)) ∧ kws.length = kvs.length ∧ ∀ {acc : List (D × Vl)} {kacc : List (Key × V)}, OrD W α F N acc (.dK kacc) → OrD W α F N (kvs.foldl (fun acc kv => kvPut acc kv.1 kv.2) acc) (.dK (mergeK kacc kws))
  | [], us, kvs, r, h, _ => by
    cases r
    cases h
    exact ⟨[], rfl, rfl, fun r => r⟩
  | [x], us, kvs, r, h, _ => by cases x <;> cases h
  | x :: y :: as, us, kvs, r, h, ha => by
    cases r with
    | cons r1 r' =>
      cases r' with
      | cons r2 r3 =>
        cases x with
        | p n => cases h
        | d k =>
          simp only [pairUp] at h
          cases hq : pairUp as with
          | none => rw [hq] at h; cases h
          | some kvs' =>
            rw [hq] at h
            cases h
            rw [List.all_cons, Bool.and_eq_true] at ha
            obtain ⟨kws, h1, h2, h3⟩ := pairUp_rel r3 hq ha.2
            obtain ⟨c, hc⟩ : ∃ c, keyK k = some c := by
              have := ha.1
              cases k <;> simp [keyOk] at this <;> exact ⟨_, rfl⟩
            have ec := key_flat hc r1
            refine ⟨(c, _) :: kws, by unfold pairsV; rw [h1, ec]; rfl, by simp [h2], fun {acc kacc} ro => ?_⟩
            obtain ⟨c', ec', ro'⟩ := OrD.put ro ha.1 r1 r2
            have : c' = c := kV_inj (ec'.symm.trans ec)
            subst this
            exact h3 ro'
theorem de_dct {t cell : Bool} {keys : List (Option Expr)} {values : List Expr} (h : DPs X W Es pos keys values fs) (hall : keys.all (·.isSome) = true) (hl : keys.length = values.length) (h0 : keys ≠ []) (h15 : keys.length ≤ 15)
    (hne : ∀ ρ S S', fs ρ S ≠ .ok [] S') : PE X (.Dict keys values pos) (tD W Es (dctF t cell fs)) := by
  obtain ⟨trs, h1, h2⟩ := h.ex
  refine peI (pe_disp h1 hall hl h0 h15) fun σ H Q ⟨α, F, ρ, S, s, er, p⟩ d0 hd => ?_
  have o0 := s.oth0 hd
  have x0 : Ext α F S H α F S (upd H d0 (.dK [])) := Ext.refl.oth hd
  refine h2 σ _ _ ⟨α, F, ρ, S, s.oth o0, er, ?_⟩
  have p : Post W (Es σ) (VlX W) α F S H ((fs ρ S).bind fun vs S => dispDct t cell vs S) Q := p
  cases hf : fs ρ S with
  | bad => rw [hf] at p; exact p.elim
  | exc ee S' => rw [hf] at p; exact Post.rebase (r := .exc ee S') (Rel := VlXs W) (Q := fun _ _ => True) x0 p
  | ok vs S2 =>
    rw [hf] at p
    intro us α2 F2 H2 x2 s2 rs
    obtain ⟨o2, hd2⟩ := o0.ext (x := x2) upd_same
    have p : Post W (Es σ) (VlX W) α F S H (dispDct t cell vs S2) Q := p
    unfold dispDct at p
    cases vs with
    | nil => exact absurd hf (hne ρ S S2)
    | cons v vs =>
      dsimp only at p
      cases hq : pairUp (v :: vs) with
      | none => rw [hq] at p; exact p.elim
      | some kvs =>
        rw [hq] at p
        dsimp only at p
        split at p
        · rename_i hz
          rw [Bool.and_eq_true, Bool.and_eq_true] at hz
          obtain ⟨kws, e1, e2, e3⟩ := pairUp_rel rs hq hz.1.2
          obtain ⟨kk, ws, q1, q2, q3, q4⟩ := e3 (acc := []) (kacc := []) ⟨[], [], rfl, rfl, rfl, .nil⟩
          refine ⟨hd2, kws, e1, by rw [e2]; exact of_decide_eq_true hz.2, ?_⟩
          exact fin_dct p ((x0.trans x2).oth hd) (s2.oth o2) hd o2 (.inl ⟨rfl, kk, q1, q2, by rw [upd_same, q3]⟩) q4
        · exact p.elim

/-! ### fields, instances -/
/-! ### calls -/
/-- what a def of number f promises: what its run tells -/
def spF (W : Wd) (rc : Nat → List Vl → Sto → Res Vl) (f : Nat) : Sp := fun vs H Q E => ∃ α F S as, Sr W α F S H ∧ VlRs W α F S.length as vs ∧ Post W E (VlX W) α F S H (rc f as S) Q
abbrev PasG (X : Cx) (Es : SX) : Prop := ∀ σ, PassesAt (CX X.prog X.w) X σ (Es σ)
theorem de_call {k f : Nat} {fd : FuncData} {ps : List Str} {rc : Nat → List Vl → Sto → Res Vl} {n : Str} {p1 : Pos} (Fk : FnG X.prog X.w X.K X.mg X.base k (W.fa f) fd ps (spF W rc f)) (hr : RoomG k X.A) (hg : Gl X n) (hm : X.mg n = some (.ref (W.fa f))) (hk : PySem.W.keepIn X.K (.ref (W.fa f)) = true)
    (hb : Binds X.K fd ps []) (hx : PasG X Es) (hd : (n == ("__debug__" : Str)) = false) (hs : notStar e = true) (hss : es.all notStar = true) (ha : PA X (e :: es) (tDA W Es fs)) : PE X (.Call (.Name n p1) (e :: es) [] pos) (tD W Es fun ρ S => (fs ρ S).bind fun vs S => rc f vs S) :=
  peI (pg_call Fk hr hb hx hg hm hk hd ⟨star_cons hs, star_none hss⟩ ha) fun σ H Q ⟨α, F, ρ, S, s, er, p⟩ => ⟨α, F, ρ, S, s, er, (Post.bind (Rel := VlXs W) p).imp fun vs H1 ⟨α1, F1, as, S1, x1, s1, r1, p1⟩ => ⟨α1, F1, S1, as, s1, r1, p1⟩⟩
theorem de_call0 {k f : Nat} {fd : FuncData} {ps : List Str} {rc : Nat → List Vl → Sto → Res Vl} {n : Str} {p1 : Pos} (Fk : FnG X.prog X.w X.K X.mg X.base k (W.fa f) fd ps (spF W rc f)) (hr : RoomG k X.A) (hg : Gl X n) (hm : X.mg n = some (.ref (W.fa f))) (hk : PySem.W.keepIn X.K (.ref (W.fa f)) = true)
    (hb : Binds X.K fd ps []) (hx : PasG X Es) (hd : (n == ("__debug__" : Str)) = false) : PE X (.Call (.Name n p1) [] [] pos) (tD W Es fun ρ S => (nilF ρ S).bind fun vs S => rc f vs S) :=
  peI (pg_call0 Fk hr hb hx hg hm hk hd) fun σ H Q ⟨α, F, ρ, S, s, er, p⟩ => ⟨α, F, S, [], s, .nil, p⟩
/-! ### fields -/
theorem kwFind_rel {R : Nat → D → V → Prop} : True := trivial
theorem kw_rel {τ : Type} {R : τ → V → Prop} {nm : Nat → Str} (inj : ∀ a b, nm a = nm b → a = b) (f : Nat) : ∀ {ns : List Nat} {xs : List τ} {us : List V}, Paired R xs us →
    (kwFind (ns.zip xs) f = none ∧ ((ns.map nm).zip us).lookup (nm f) = none) ∨ ∃ x u, kwFind (ns.zip xs) f = some x ∧ ((ns.map nm).zip us).lookup (nm f) = some u ∧ R x u
  | [], xs, us, r => .inl ⟨by simp [kwFind], by simp⟩
  | n :: ns, _, _, .nil => .inl ⟨by simp [kwFind], by simp⟩
  | n :: ns, _, _, .cons (a := x) (b := u) h r => by
    by_cases e : n = f
    · subst e
      exact .inr ⟨x, u, by simp [kwFind], by simp, h⟩
    · have e2 : (nm f == nm n) = false := by
        cases q : nm f == nm n with
        | false => rfl
        | true => exact absurd (inj _ _ (beq_iff_eq.mp q)).symm e
      have e3 : (n == f) = false := by simpa using e
      rcases kw_rel inj f (ns := ns) r with ⟨h1, h2⟩ | ⟨y, w, h1, h2, h3⟩
      · refine .inl ⟨?_, ?_⟩
        · unfold kwFind at h1 ⊢
          simp only [List.zip_cons_cons, List.find?_cons, e3]
          exact h1
        · simp only [List.map_cons, List.zip_cons_cons, List.lookup_cons, e2]
          exact h2
      · refine .inr ⟨y, w, ?_, ?_, h3⟩
        · unfold kwFind at h1 ⊢
          simp only [List.zip_cons_cons, List.find?_cons, e3]
          exact h1
        · simp only [List.map_cons, List.zip_cons_cons, List.lookup_cons, e2]
          exact h2
theorem kw_none {nm : Nat → Str} {m : Str} (h : ∀ k, nm k ≠ m) : ∀ (ns : List Nat) (us : List V), ((ns.map nm).zip us).lookup m = none
  | [], us => by simp
  | n :: ns, [] => by simp
  | n :: ns, u :: us => by
    have e : (m == nm n) = false := by
      cases q : m == nm n with
      | false => rfl
      | true => exact absurd (beq_iff_eq.mp q).symm (h n)
    simp only [List.map_cons, List.zip_cons_cons, List.lookup_cons, e]
    exact kw_none h ns us
theorem zip_kws {τ : Type} : ∀ fs : List (Nat × τ), (fs.map (·.1)).zip (fs.map (·.2)) = fs
  | [] => rfl
  | p :: fs => by simp [zip_kws fs]
theorem nm_map {τ : Type} {nm : Nat → Str} (fs : List (Nat × τ)) : (fs.map fun p => nm p.1) = (fs.map (·.1)).map nm := by simp
theorem kwPut_rel {nm : Nat → Str} (inj : ∀ a b, nm a = nm b → a = b) (f : Nat) {N : Nat} {x : Vl} {w : V} (hx : VlR W α F N x w) : ∀ {fs : List (Nat × Vl)} {us : List V}, VlRs W α F N (fs.map (·.2)) us →
    ∃ us', putF (nm f) w ((fs.map fun p => nm p.1).zip us) = ((kwPut fs f x).map fun p => nm p.1).zip us' ∧ VlRs W α F N ((kwPut fs f x).map (·.2)) us'
  | [], us, r => by
    cases r
    exact ⟨[w], rfl, .cons hx .nil⟩
  | (g, y) :: fs, us, r => by
    cases r with
    | @cons _ v _ vs r1 r2 =>
      unfold kwPut
      by_cases e : g = f
      · subst e
        refine ⟨w :: vs, ?_, ?_⟩
        · simp [putF]
        · simpa using VlRs.cons hx r2
      · obtain ⟨us', h1, h2⟩ := kwPut_rel inj f hx r2
        refine ⟨v :: us', ?_, ?_⟩
        · have e2 : ¬ nm g = nm f := fun z => e (inj _ _ z)
          rw [if_neg e]
          simp only [List.map_cons, List.zip_cons_cons]
          rw [← h1]
          simp [putF, e2]
        · rw [if_neg e]
          exact .cons r1 h2
/-- what is known of the names of fields, of the classes cs -/
structure FldOk (K : PySem.W.Frag) (W : Wd) (f : Str) (k : Nat) (cs : List Nat) : Prop where
  nm : W.nm k = f
  inj : ∀ a b, W.nm a = W.nm b → a = b
  cl : ∀ c ∈ cs, Cls K (W.ca c) ∧ NoAttr K (W.ca c) f
theorem FldOk.mono {K : PySem.W.Frag} {f : Str} {k : Nat} {cs : List Nat} (h : FldOk K W f k cs) (g : Nat → Bool) : FldOk K W f k (cs.filter g) := ⟨h.nm, h.inj, fun c hc => h.cl c (List.mem_filter.mp hc).1⟩
def fldF (k : Nat) (cs : List Nat) (fa : Env → Sto → Res Vl) : Env → Sto → Res Vl := fun ρ S => (fa ρ S).bind fun x S => field x k cs S
theorem field_at {f : Str} {k : Nat} {cs : List Nat} (ok : FldOk X.K W f k cs) (s : Sr W α F S H) (r : VlR W α F S.length x v) {z : Vl} {S' : Sto} (h : field x k cs S = .ok z S') :
    S' = S ∧ ∃ a c dx fs u, c ∈ cs ∧ v = .ref a ∧ H a = some (.ins (W.ca c) dx fs) ∧ fs.lookup f = some u ∧ VlR W α F S.length z u := by
  cases x with
  | p n =>
    obtain ⟨ev, hl⟩ := (show v = .ref (α n) ∧ n < S.length from r)
    simp only [field] at h
    cases hn : S[n]? with
    | none => rw [hn] at h; cases h
    | some c =>
      rw [hn] at h
      cases c with
      | ins c fs =>
        simp only at h
        by_cases hc : cs.contains c = true
        · rw [if_pos hc] at h
          obtain ⟨dx, us, ho, rr⟩ := s.cel n _ hn
          rcases kw_rel ok.inj k (ns := fs.map (·.1)) (vls_paired rr) with ⟨h1, _⟩ | ⟨y, u, h1, h2, h3⟩
          · rw [zip_kws] at h1; rw [h1] at h; cases h
          · rw [zip_kws] at h1
            rw [h1] at h
            cases h
            rw [← nm_map, ok.nm] at h2
            exact ⟨rfl, _, c, dx, _, u, by simpa using hc, ev, ho, h2, h3⟩
        · rw [if_neg hc] at h; cases h
      | _ => cases h
  | d x =>
    cases x with
    | ins c ns ds =>
      have h : (if cs.contains c then (match kwFind (ns.zip ds) k with | some v => Res.ok (Vl.d v) S | none => .bad) else .bad) = .ok z S' := h
      by_cases hc : cs.contains c = true
      · rw [if_pos hc] at h
        obtain ⟨a, dx, us, rfl, ho, rr⟩ := r
        rcases kw_rel ok.inj k (ns := ns) (rps_paired rr) with ⟨h1, _⟩ | ⟨y, u, h1, h2, h3⟩
        · rw [h1] at h; cases h
        · rw [h1] at h
          cases h
          rw [ok.nm] at h2
          exact ⟨rfl, _, c, dx, _, u, by simpa using hc, rfl, s.sub _ _ ho, h2, h3⟩
      · rw [if_neg hc] at h; cases h
    | _ => cases h
theorem field_ok (x : Vl) (k : Nat) (cs : List Nat) (S : Sto) : field x k cs S = .bad ∨ ∃ z, field x k cs S = .ok z S := by
  unfold field
  repeat' split
  all_goals first | exact .inl rfl | exact .inr ⟨_, rfl⟩
theorem field_of {f : Str} {k : Nat} {cs : List Nat} (ok : FldOk X.K W f k cs) (s : Sr W α F S H) (r : VlR W α F S.length x v) (p : Post W E (VlX W) α F S H (field x k cs S) Q) :
    ∃ a C dx fs u, v = .ref a ∧ H a = some (.ins C dx fs) ∧ Cls X.K C ∧ NoAttr X.K C f ∧ fs.lookup f = some u ∧ Q u H := by
  rcases field_ok x k cs S with e | ⟨z, e⟩
  · rw [e] at p; exact p.elim
  · rw [e] at p
    obtain ⟨_, a, c, dx, fs, u, hc, e1, h1, h2, h3⟩ := field_at ok s r e
    obtain ⟨c1, c2⟩ := ok.cl c hc
    exact ⟨a, _, dx, fs, u, e1, h1, c1, c2, h2, p.here s h3⟩
theorem de_fld {f : Str} {k : Nat} {cs : List Nat} (ok : FldOk X.K W f k cs) (hb : noSuper a = true) (ha : PE X a (tD W Es fa)) : PE X (.Attribute a f pos) (tD W Es (fldF k cs fa)) :=
  peI (pe_fld ha (attr_base hb)) fun σ H Q ⟨α, F, ρ, S, s, er, p⟩ => ⟨α, F, ρ, S, s, er, (Post.bind (Rel := VlX W) p).imp fun v H1 ⟨α1, F1, x, S1, x1, s1, r1, p1⟩ => field_of ok s1 r1 p1⟩

/-! ### methods of own classes, new instances, defs held by names -/
theorem meth_ev {o : Expr} {m : Str} {apos : Pos} {env : PySem.Env} (hb : noSuper o = true) (hf : methodCallForm es.length (backTo pos (starEach es env)) (backToKw pos (keywordEach [] env)) = true) (hl : (apos.endLine == pos.line) = true) :
    eval (.Call (.Attribute o m apos) es [] pos) env = (do
      let ov ← eval o env
      standAt apos.atName
      let (f, first) ← holding [ov] (getMethod ov m (do return (← importBound o env).getD true))
      callWith pos f first (backTo pos (starEach es env)) (backToKw pos (keywordEach [] env))) := by
  show (do
    let ov ← attributeBase o m env (eval o env)
    standAt apos.atName
    methodCall o m apos pos env ov (es.length + 0) (backTo pos (starEach es env)) (backToKw pos (keywordEach [] env))) = _
  rw [attr_base hb]
  unfold methodCall calleeOf methodCallPos
  rw [Nat.add_zero, hf]
  simp only [Bool.not_true, Bool.false_or, hl, if_true, pure_bind]
theorem form_of {es : List Expr} {env : PySem.Env} (h : es.all notStar = true) (hl : es.length < 30) : methodCallForm es.length (backTo pos (starEach es env)) (backToKw pos (keywordEach [] env)) = true := by
  unfold methodCallForm
  rw [few_of h]
  simp [backToKw, keywordEach, hl]
def methF (tab : List (Nat × Nat)) (rc : Nat → List Vl → Sto → Res Vl) (fo : Env → Sto → Res Vl) (fs : Env → Sto → Res (List Vl)) : Env → Sto → Res Vl := fun ρ S => (fo ρ S).bind fun x S => match (clsOf x S).bind fun c => List.lookup c tab with
    | some f => (fs ρ S).bind fun vs S => rc f (x :: vs) S
    | none => .bad
/-- what is known of the methods of a name -/
theorem lookup_mem {τ : Type} {c : Nat} {f : τ} : ∀ {tab : List (Nat × τ)}, List.lookup c tab = some f → (c, f) ∈ tab
  | [], h => by cases h
  | q :: tab, h => by
    rw [List.lookup_cons] at h
    cases e : c == q.1 with
    | true =>
      rw [e] at h
      cases h
      have := beq_iff_eq.mp e
      subst this
      simp
    | false =>
      rw [e] at h
      exact List.mem_cons_of_mem _ (lookup_mem h)
structure MtOk (X : Cx) (W : Wd) (k : Nat) (rc : Nat → List Vl → Sto → Res Vl) (m : Str) (tab : List (Nat × Nat)) : Prop where
  nm : ∀ j, W.nm j ≠ m
  fn : ∀ p ∈ tab, Cls X.K (W.ca p.1) ∧ Meth X.K (W.ca p.1) m (W.fa p.2) ∧ ∃ fd ps, FnG X.prog X.w X.K X.mg X.base k (W.fa p.2) fd ps (spF W rc p.2) ∧ Binds X.K fd ps []
theorem MtOk.mono {k : Nat} {rc : Nat → List Vl → Sto → Res Vl} {m : Str} {tab : List (Nat × Nat)} (h : MtOk X W k rc m tab) (g : Nat × Nat → Bool) : MtOk X W k rc m (tab.filter g) := ⟨h.nm, fun p hp => h.fn p (List.mem_filter.mp hp).1⟩
theorem clsOf_of (s : Sr W α F S H) (r : VlR W α F S.length x v) {c : Nat} (h : clsOf x S = some c) : ∃ a dx ns us, v = .ref a ∧ H a = some (.ins (W.ca c) dx (((ns : List Nat).map W.nm).zip us)) := by
  cases x with
  | p n =>
    obtain ⟨ev, hl⟩ := (show v = .ref (α n) ∧ n < S.length from r)
    simp only [clsOf] at h
    cases hn : S[n]? with
    | none => rw [hn] at h; cases h
    | some c =>
      rw [hn] at h
      cases c with
      | ins c fs =>
        cases h
        obtain ⟨dx, us, ho, rr⟩ := s.cel n _ hn
        rw [nm_map] at ho
        exact ⟨_, dx, _, us, ev, ho⟩
      | _ => cases h
  | d x =>
    cases x with
    | ins c ns ds =>
      cases h
      obtain ⟨a, dx, us, rfl, ho, rr⟩ := r
      exact ⟨a, dx, ns, us, rfl, s.sub _ _ ho⟩
    | _ => cases h
theorem de_meth {k : Nat} {o : Expr} {m : Str} {apos : Pos} {tab : List (Nat × Nat)} {rc : Nat → List Vl → Sto → Res Vl} (ok : MtOk X W k rc m tab) (hne : tab.isEmpty = false) (hr : RoomG k X.A) (hx : PasG X Es)
    (hb : noSuper o = true) (hl : (apos.endLine == pos.line) = true) (hs : es.all notStar = true) (h30 : es.length < 30) (ho : PE X o (tD W Es fa)) (ha : PA X es (tDA W Es fs)) (hnil : es = [] → fs = nilF) :
    PE X (.Call (.Attribute o m apos) es [] pos) (tD W Es (methF tab rc fa fs)) := by
  have ev := meth_ev (m := m) (env := X.env) hb (form_of (pos := pos) (env := X.env) hs h30) hl
  have one : ∀ p ∈ tab, ∃ sp : Sp, sp = spF W rc p.2 ∧ PE X (.Call (.Attribute o m apos) es [] pos) (tMethG (W.ca p.1) m sp Es (tD W Es fa) (if es.isEmpty then tNil else tDA W Es fs)) := fun p hp => by
    obtain ⟨c, me, fd, ps, F, b⟩ := ok.fn p hp
    refine ⟨_, rfl, ?_⟩
    cases es with
    | nil => exact pg_meth0 F hr b hx ho c me ev
    | cons e es =>
      rw [List.all_cons, Bool.and_eq_true] at hs
      exact pg_meth F hr b hx ho c me ha ⟨star_cons hs.1, star_none hs.2⟩ ev
  refine ⟨fun pins sh σ H Q I ⟨α, F, ρ, S, s, er, p⟩ => ?_⟩
  have p : Post W (Es σ) (VlX W) α F S H ((fa ρ S).bind fun x S => match (clsOf x S).bind fun c => List.lookup c tab with
    | some f => (fs ρ S).bind fun vs S => rc f (x :: vs) S
    | none => .bad) Q := p
  cases hf : fa ρ S with
  | bad => rw [hf] at p; exact p.elim
  | exc ee S' =>
    rw [hf] at p
    cases tab with
    | nil => cases hne
    | cons q tab =>
      obtain ⟨sp, e, h⟩ := one q (by simp)
      exact h.run pins sh σ H Q I ⟨α, F, ρ, S, s, er, by rw [hf]; exact p⟩
  | ok x S1 =>
    rw [hf] at p
    have p : Post W (Es σ) (VlX W) α F S H (match (clsOf x S1).bind fun c => List.lookup c tab with
      | some f => (fs ρ S1).bind fun vs S => rc f (x :: vs) S
      | none => .bad) Q := p
    cases hc : clsOf x S1 with
    | none => rw [hc] at p; exact p.elim
    | some c =>
      rw [hc] at p
      simp only [Option.bind_some] at p
      cases hg : List.lookup c tab with
      | none => rw [hg] at p; exact p.elim
      | some f =>
        rw [hg] at p
        simp only at p
        have hmem : (c, f) ∈ tab := by
          exact lookup_mem hg
        obtain ⟨sp, e, h⟩ := one (c, f) hmem
        subst e
        refine h.run pins sh σ H Q I ⟨α, F, ρ, S, s, er, ?_⟩
        rw [hf]
        intro w α1 F1 H1 x1 s1 r1
        obtain ⟨a, dx, ns, us, ew, hi⟩ := clsOf_of s1 r1 hc
        refine ⟨a, dx, _, ew, hi, kw_none ok.nm ns us, ?_⟩
        have p1 := Post.rebase x1 p
        have fin : ∀ vs H2, Mid W (Es σ) (VlXs W) (VlX W) α1 F1 S1 H1 (fun vs S => rc f (x :: vs) S) Q vs H2 → spF W rc f (w :: vs) H2 Q (Es σ) := fun vs H2 ⟨α2, F2, as, S2, x2, s2, r2, p2⟩ => by
          exact ⟨α2, F2, S2, x :: as, s2, .cons (r1.ext x2) r2, p2⟩
        cases es with
        | nil =>
          have := hnil rfl
          subst this
          exact fin [] H1 ⟨α1, F1, [], S1, Ext.refl, s1, .nil, p1⟩
        | cons e es => exact ⟨α1, F1, ρ, S1, s1, er.ext x1, (Post.bind (Rel := VlXs W) p1).imp fin⟩
def callvF (G : Gm) (i : Nat) (rc : Nat → List Vl → Sto → Res Vl) (fs : Env → Sto → Res (List Vl)) : Env → Sto → Res Vl := fun ρ S => match (ρ[i]?).bind id with
    | some (.d (.fn f)) => if G.callable f then (fs ρ S).bind fun vs S => rc f vs S else .bad
    | _ => .bad
theorem de_callv {k i : Nat} {G : Gm} {rc : Nat → List Vl → Sto → Res Vl} {n : Str} {p1 : Pos} (ok : ∀ f, G.callable f = true → ∃ fd ps, FnG X.prog X.w X.K X.mg X.base k (W.fa f) fd ps (spF W rc f) ∧ PySem.W.keepIn X.K (.ref (W.fa f)) = true ∧ Binds X.K fd ps [])
    (hr : RoomG k X.A) (hN : X.N[i]? = some n) (hv : Vis X.env.scope n) (hd : (n == ("__debug__" : Str)) = false) (hcd : (n == ("__classdict__" : Str)) = false) (hx : PasG X Es) (hs : notStar e = true) (hss : es.all notStar = true) (ha : PA X (e :: es) (tDA W Es fs)) :
    PE X (.Call (.Name n p1) (e :: es) [] pos) (tD W Es (callvF G i rc fs)) := by
  refine ⟨fun pins sh σ H Q I ⟨α, F, ρ, S, s, er, p⟩ => ?_⟩
  unfold callvF at p
  cases q : (ρ[i]?).bind id with
  | none => rw [q] at p; exact p.elim
  | some v =>
    rw [q] at p
    have q' : ρ[i]? = some (some v) := by
      cases z : ρ[i]? with
      | none => rw [z] at q; cases q
      | some o => rw [z] at q; exact congrArg some q
    obtain ⟨w, ew, r⟩ := er.at_ i v q'
    cases v with
    | p n => exact p.elim
    | d x =>
      cases x with
      | fn f =>
        have p : Post W (Es σ) (VlX W) α F S H (if G.callable f then (fs ρ S).bind fun vs S => rc f vs S else .bad) Q := p
        by_cases hc : G.callable f = true
        · rw [if_pos hc] at p
          obtain ⟨fd, ps, Fk, hk, hb⟩ := ok f hc
          cases (show w = .ref (W.fa f) from r)
          refine (pg_held Fk hr hb hx hN hv hk hd hcd ⟨star_cons hs, star_none hss⟩ ha).run pins sh σ H Q I ⟨ew, α, F, ρ, S, s, er, (Post.bind (Rel := VlXs W) p).imp fun vs H1 ⟨α1, F1, as, S1, x1, s1, r1, p1⟩ => ?_⟩
          exact ⟨α1, F1, S1, as, s1, r1, p1⟩
        · rw [if_neg hc] at p; exact p.elim
      | _ => exact p.elim
def makeF (c f : Nat) (rc : Nat → List Vl → Sto → Res Vl) (fs : Env → Sto → Res (List Vl)) : Env → Sto → Res Vl := fun ρ S => (fs ρ S).bind fun vs S => made S.length (rc f (.p S.length :: vs) (S ++ [.ins c []]))
theorem make_of {c f : Nat} {rc : Nat → List Vl → Sto → Res Vl} {as : List Vl} {vs : List V} (s : Sr W α F S H) (rs : VlRs W α F S.length as vs) (p : Post W E (VlX W) α F S H (made S.length (rc f (.p S.length :: as) (S ++ [.ins c []]))) Q) {i dx : Addr} (hi : H i = none) (hdx : H dx = none) (ne : dx ≠ i) :
    spF W rc f (.ref i :: vs) (upd (upd H dx (.own i)) i (.ins (W.ca c) dx [])) (fun v H2 => v = .non ∧ Q (.ref i) H2) E := by
  have s1 := s.oth (s.oth0 hdx) (u := .own i)
  have x1 : Ext α F S H α F S (upd H dx (.own i)) := Ext.refl.oth hdx
  have hi1 : upd H dx (.own i) i = none := by rw [upd_ne fun z => ne z.symm]; exact hi
  obtain ⟨s2, x2⟩ := s1.newC (o := .ins (W.ca c) dx []) (c := .ins c []) hi1 ⟨dx, [], upd_same, .nil⟩
  have x12 := x1.trans x2
  refine ⟨_, _, _, .p S.length :: as, s2, .cons (show _ ∧ _ from ⟨by rw [adr_same], by simp⟩) (rs.ext x12), ?_⟩
  cases hr : rc f (.p S.length :: as) (S ++ [.ins c []]) with
  | bad => rw [hr] at p; exact p.elim
  | exc ee S' =>
    rw [hr] at p
    exact Post.rebase (r := .exc ee S') (Rel := VlX W) (Q := fun _ _ => True) x12 p
  | ok v S' =>
    rw [hr] at p
    intro w α3 F3 H3 x3 s3 r3
    cases v with
    | p n => exact p.elim
    | d y =>
      cases y with
      | non =>
        refine ⟨r3, p (.ref i) α3 F3 H3 (x12.trans x3) s3 ⟨?_, ?_⟩⟩
        · rw [x3.al S.length (by simp), adr_same]
        · exact Nat.lt_of_lt_of_le (by simp) x3.len
      | _ => exact p.elim
theorem de_make {k c f : Nat} {fd : FuncData} {ps : List Str} {rc : Nat → List Vl → Sto → Res Vl} {n : Str} {p1 : Pos} (M : Mk X.K (W.ca c) (W.fa f)) (Fk : FnG X.prog X.w X.K X.mg X.base k (W.fa f) fd ps (spF W rc f)) (hr : RoomG (k + 1) X.A) (hg : Gl X n) (hm : X.mg n = some (.ref (W.ca c)))
    (hb : Binds X.K fd ps []) (hx : PasG X Es) (hd : (n == ("__debug__" : Str)) = false) (hs : es.all notStar = true) (ha : PA X es (tDA W Es fs)) (hnil : es = [] → fs = nilF) : PE X (.Call (.Name n p1) es [] pos) (tD W Es (makeF c f rc fs)) := by
  cases es with
  | nil =>
    have := hnil rfl
    subst this
    exact peI (pg_make0 M Fk hr hb hx hg hm hd) fun σ H Q ⟨α, F, ρ, S, s, er, p⟩ i dx hi hdx ne => make_of s .nil p hi hdx ne
  | cons e es =>
    rw [List.all_cons, Bool.and_eq_true] at hs
    exact peI (pg_make M Fk hr hb hx hg hm hd ⟨star_cons hs.1, star_none hs.2⟩ ha) fun σ H Q ⟨α, F, ρ, S, s, er, p⟩ => ⟨α, F, ρ, S, s, er, (Post.bind (Rel := VlXs W) p).imp fun vs H1 ⟨α1, F1, as, S1, x1, s1, r1, p1⟩ i dx hi hdx ne => make_of s1 r1 p1 hi hdx ne⟩
/-! ### calls by keywords, gcd -/
theorem bind_assoc' {τ υ φ : Type} (r : Res τ) (f : τ → Sto → Res υ) (g : υ → Sto → Res φ) : (r.bind f).bind g = r.bind fun a S => (f a S).bind g := by cases r <;> rfl
theorem evs_app {G : Gm} {rc : Nat → List Vl → Sto → Res Vl} (bs : List Ex) : ∀ (as : List Ex) (ρ : Env) (S : Sto), evs G rc (as ++ bs) ρ S = (evs G rc as ρ S).bind fun vs S => (evs G rc bs ρ S).bind fun ws S => .ok (vs ++ ws) S
  | [], ρ, S => by
    show evs G rc bs ρ S = (evs G rc bs ρ S).bind fun ws S => .ok ws S
    cases evs G rc bs ρ S <;> rfl
  | a :: as, ρ, S => by
    show (ev G rc a ρ S).bind (fun v S => (evs G rc (as ++ bs) ρ S).bind fun vs S => .ok (v :: vs) S) = ((ev G rc a ρ S).bind fun v S => (evs G rc as ρ S).bind fun vs S => .ok (v :: vs) S).bind _
    rw [bind_assoc']
    congr 1
    funext v S1
    rw [evs_app bs as, bind_assoc', bind_assoc']
    congr 1
    funext vs S2
    rw [bind_assoc']
    rfl
theorem evs_fill {G : Gm} {rc : Nat → List Vl → Sto → Res Vl} : ∀ (q : List (Option D)) (bs : List Ex) (ρ : Env) (S : Sto), holes q = bs.length → evs G rc (fillE q bs) ρ S = (evs G rc bs ρ S).bind fun ws S => .ok (fillV q ws) S
  | [], [], ρ, S, _ => rfl
  | [], _ :: _, ρ, S, h => by simp [holes] at h
  | some d :: q, bs, ρ, S, h => by
    have h : holes q = bs.length := by simpa [holes] using h
    show (evs G rc (fillE q bs) ρ S).bind (fun vs S => .ok (.d d :: vs) S) = _
    rw [evs_fill q bs ρ S h, bind_assoc']
    rfl
  | none :: q, [], ρ, S, h => by simp [holes] at h
  | none :: q, b :: bs, ρ, S, h => by
    have h : holes q = bs.length := by simpa [holes] using h
    show (ev G rc b ρ S).bind (fun v S => (evs G rc (fillE q bs) ρ S).bind fun vs S => .ok (v :: vs) S) = ((ev G rc b ρ S).bind fun v S => (evs G rc bs ρ S).bind fun vs S => .ok (v :: vs) S).bind _
    rw [bind_assoc']
    congr 1
    funext v S1
    rw [evs_fill q bs ρ S1 h, bind_assoc', bind_assoc']
    rfl
theorem evs_len {G : Gm} {rc : Nat → List Vl → Sto → Res Vl} : ∀ {as : List Ex} {ρ : Env} {S S' : Sto} {vs : List Vl}, evs G rc as ρ S = .ok vs S' → vs.length = as.length
  | [], ρ, S, S', vs, h => by cases h; rfl
  | a :: as, ρ, S, S', vs, h => by
    have h : (ev G rc a ρ S).bind (fun v S => (evs G rc as ρ S).bind fun vs S => .ok (v :: vs) S) = .ok vs S' := h
    cases e1 : ev G rc a ρ S with
    | bad => rw [e1] at h; cases h
    | exc ee S1 => rw [e1] at h; cases h
    | ok v S1 =>
      rw [e1] at h
      have h : (evs G rc as ρ S1).bind (fun vs S => .ok (v :: vs) S) = .ok vs S' := h
      cases e2 : evs G rc as ρ S1 with
      | bad => rw [e2] at h; cases h
      | exc ee S1 => rw [e2] at h; cases h
      | ok ws S2 =>
        rw [e2] at h
        cases h
        simp [evs_len e2]
/-- a call's shape: the values written and the keywords' values bind -/
structure KB (K : PySem.W.Frag) (W : Wd) (fd : FuncData) (ps : List Str) (q : Nat × List Str × List (Option D)) : Prop where
  ex : ∃ (mv : List Value) (mz : List V), (∀ F, Rps W F (q.2.2.filterMap id) mz) ∧ holes q.2.2 = q.2.1.length ∧ KBn K fd ps q.1 q.2.1 (fun us ws => us ++ fillG q.2.2 mv ws) (fun vs zs => vs ++ fillG q.2.2 mz zs)
theorem fill_rel {N : Nat} : ∀ {q : List (Option D)} {bs : List Vl} {mz zs : List V}, Rps W F (q.filterMap id) mz → VlRs W α F N bs zs → VlRs W α F N (fillV q bs) (fillG q mz zs)
  | [], _, _, _, _, _ => .nil
  | some d :: q, bs, mz, zs, h, r => by
    have h : Rps W F (d :: q.filterMap id) mz := by simpa using h
    obtain ⟨v, t, rfl, h1, h2⟩ := h
    exact .cons h1 (fill_rel h2 r)
  | none :: q, bs, mz, zs, h, r => by
    have h : Rps W F (q.filterMap id) mz := by simpa using h
    cases r with
    | nil => exact .nil
    | cons r1 r2 => exact .cons r1 (fill_rel h r2)
theorem kw_names : ∀ {kws : List Keyword} {ks : List Str} {env : PySem.Env} {pos : Pos}, kwNames kws = some ks → (backToKw pos (keywordEach kws env)).all (·.1.isSome) = true ∧ (backToKw pos (keywordEach kws env)).filterMap (·.1) = ks ∧ (backToKw pos (keywordEach kws env)).any (·.1.isNone) = false ∧ ks.length = kws.length
  | [], ks, env, pos, h => by cases h; exact ⟨rfl, rfl, rfl, rfl⟩
  | ⟨none, e, p⟩ :: r, ks, env, pos, h => by cases h
  | ⟨some x, e, p⟩ :: r, ks, env, pos, h => by
    unfold kwNames at h
    split at h
    · cases q : kwNames r with
      | none => rw [q] at h; cases h
      | some l =>
        rw [q] at h
        cases h
        obtain ⟨h1, h2, h3, h4⟩ := kw_names (env := env) (pos := pos) q
        refine ⟨?_, ?_, ?_, by simp [h4]⟩
        · show (true && (backToKw pos (keywordEach r env)).all (·.1.isSome)) = true
          rw [h1]; rfl
        · show x :: (backToKw pos (keywordEach r env)).filterMap (·.1) = _
          rw [h2]
        · show (false || (backToKw pos (keywordEach r env)).any (·.1.isNone)) = false
          rw [h3]; rfl
    · cases h
theorem dk_nil : PK X [] (tDA W Es nilF) := ⟨fun pos pins s σ H Q I ⟨α, F, ρ, S, sr, er, p⟩ => pk_nil.run pos pins s σ H Q I (p.here sr .nil)⟩
theorem dk_cons {kws : List Keyword} {nm : Option Str} {kpos : Pos} (he : PE X e (tD W Es fa)) (hs : PK X kws (tDA W Es fs)) : PK X (⟨nm, e, kpos⟩ :: kws) (tDA W Es (consF fa fs)) :=
  ⟨fun pos pins s σ H Q I ⟨α, F, ρ, S, sr, er, p⟩ => (pk_cons he hs).run pos pins s σ H Q I ⟨α, F, ρ, S, sr, er, (Post.bind p).imp fun v H1 ⟨α1, F1, x, S1, x1, s1, r1, p1⟩ =>
    ⟨α1, F1, ρ, S1, s1, er.ext x1, (Post.bind (Rel := VlXs W) p1).imp fun vs H2 ⟨α2, F2, xs, S2, x2, s2, r2, p2⟩ => p2.here s2 (.cons (r1.ext x2) r2)⟩⟩⟩
theorem de_callN {k f : Nat} {fd : FuncData} {ps : List Str} {rc : Nat → List Vl → Sto → Res Vl} {n : Str} {p1 : Pos} {q : Nat × List Str × List (Option D)} {kws : List Keyword} {gs : Env → Sto → Res (List Vl)} (Fk : FnG X.prog X.w X.K X.mg X.base k (W.fa f) fd ps (spF W rc f)) (hr : RoomG k X.A) (hg : Gl X n) (hm : X.mg n = some (.ref (W.fa f)))
    (hk : PySem.W.keepIn X.K (.ref (W.fa f)) = true) (hb : KB X.K W fd ps q) (hx : PasG X Es) (hd : (n == ("__debug__" : Str)) = false) (hs : notStar e = true) (hss : es.all notStar = true) (ha : PA X (e :: es) (tDA W Es fs)) (hkw : PK X kws (tDA W Es gs)) (hks : kwNames kws = some q.2.1)
    (l1 : ∀ ρ S vs S', fs ρ S = .ok vs S' → vs.length = q.1) (l2 : ∀ ρ S vs S', gs ρ S = .ok vs S' → vs.length = q.2.1.length) :
    PE X (.Call (.Name n p1) (e :: es) kws pos) (tD W Es fun ρ S => (fs ρ S).bind fun vs S => (gs ρ S).bind fun ws S => rc f (vs ++ fillV q.2.2 ws) S) := by
  obtain ⟨mv, mz, hmz, hh, hb⟩ := hb.ex
  obtain ⟨k1, k2, k3, k4⟩ := kw_names (env := X.env) (pos := pos) hks
  have hpl : ((backTo pos (starEach (e :: es) X.env)).any (·.1) || (backToKw pos (keywordEach kws X.env)).any (·.1.isNone)) = false := by
    rw [k3, star_none (by rw [List.all_cons, hs, hss]; rfl)]; rfl
  refine peI (pg_kw Fk hr hb hx hg hm hk hd (star_cons hs) hpl k1 k2 ha hkw) fun σ H Q ⟨α, F, ρ, S, s, er, p⟩ => ⟨α, F, ρ, S, s, er, ?_⟩
  dsimp only at p
  cases hf : fs ρ S with
  | bad => rw [hf] at p; exact p.elim
  | exc ee S' => rw [hf] at p; exact p
  | ok vs S1 =>
    rw [hf] at p
    intro us α1 F1 H1 x1 s1 r1
    have p1 : Post W (Es σ) (VlX W) α F S H ((gs ρ S1).bind fun ws S => rc f (vs ++ fillV q.2.2 ws) S) Q := p
    have p1 := Post.rebase x1 p1
    refine ⟨α1, F1, ρ, S1, s1, er.ext x1, ?_⟩
    cases hg2 : gs ρ S1 with
    | bad => rw [hg2] at p1; exact p1.elim
    | exc ee S' => rw [hg2] at p1; exact p1
    | ok ws S2 =>
      rw [hg2] at p1
      intro zs α2 F2 H2 x2 s2 r2
      refine ⟨r1.length.symm.trans (l1 _ _ _ _ hf), r2.length.symm.trans (l2 _ _ _ _ hg2), α2, F2, S2, vs ++ fillV q.2.2 ws, s2, (r1.ext x2).append (fill_rel (hmz F2) r2), ?_⟩
      exact Post.rebase (r := rc f (vs ++ fillV q.2.2 ws) S2) x2 p1
theorem de_gcd {n : Str} {p1 : Pos} {cell : Bool} (hg : Gl X n) (hm : X.mg n = some (.builtin "math.gcd")) (hd : (n == ("__debug__" : Str)) = false) (hs : notStar e = true) (hss : es.all notStar = true) (ha : PA X (e :: es) (tDA W Es fs)) :
    PE X (.Call (.Name n p1) (e :: es) [] pos) (tD W Es fun ρ S => (fs ρ S).bind fun vs S => builtin .gcd cell vs S) :=
  peI (pe_callBfun cr_gcd hg hm ha hd (star_cons hs) (star_none hss)) fun σ H Q ⟨α, F, ρ, S, s, er, p⟩ => ⟨α, F, ρ, S, s, er, (Post.bind (Rel := VlXs W) p).imp fun vs H1 ⟨α1, F1, as, S1, x1, s1, r1, p1⟩ => by
    match as, r1 with
    | [], r1 => exact p1.elim
    | [_], r1 => exact p1.elim
    | [a, b], r1 =>
      obtain ⟨v, u, rfl, ra, rb⟩ := r1.two
      obtain ⟨i, j, rfl, rfl, _, q⟩ := bin_int (C := fun _ _ => True) (fun _ _ _ => trivial) s1 ra rb p1
      exact ⟨i, j, rfl, q⟩
    | _ :: _ :: _ :: _, r1 => exact p1.elim⟩
end
end Z
end

section
set_option maxRecDepth 100000
set_option maxHeartbeats 2000000
/-! G3: data that is shown (repr), dicts among it. -/
namespace Z
open PySem PySem.Spec PyProof.Rows L2

theorem textFrom_le : ∀ (ts : List Str) (k : Nat) (acc : Str), (textFrom k acc ts).length ≤ acc.length + piled ts
  | [], k, acc => by unfold textFrom; omega
  | t :: r, k, acc => by
    have h := textFrom_le r (k + 1) (acc ++ (if k > 0 then ", " else "" : String) ++ t)
    unfold textFrom
    rw [strLen_append, strLen_append] at h
    rw [piled_cons]
    have : (Str.ofString (if k > 0 then ", " else "" : String)).length ≤ 2 := by split <;> decide
    omega
theorem join_le (ts : List Str) : (Str.join ", " ts).length ≤ piled ts := by
  cases ts with
  | nil => exact Nat.zero_le _
  | cons t r => have := join_length_add (t :: r) (by simp); omega
theorem log_lt {n k : Nat} (hk : 0 < k) (h : n < 2 ^ k) : n.log2 < k := by
  by_cases e : n = 0
  · subst e; simpa using hk
  · exact (Nat.log2_lt e).mpr h
mutual
theorem shown_le : ∀ d : PyData, okPy d = true → (PyData.shown d).length ≤ wPy d
  | .none, _ => by simp only [PyData.shown, wPy]; decide
  | .bool b, _ => by cases b <;> (simp only [PyData.shown, wPy]; decide)
  | .int i, h => by
    simp only [PyData.shown, wPy]
    have h : i.natAbs < 10 ^ 77 := of_decide_eq_true h
    rw [PySem.ofString_length]
    exact int_text_length_le10 (k := 77) (by decide) h
  | .str x, h => by
    simp only [PyData.shown, wPy]
    exact StrLaws.reprText_len x fun c hc => of_decide_eq_true (List.all_eq_true.mp h c hc)
  | .list xs, h => by
    simp only [PyData.shown, wPy]
    have := showns_le xs h
    unfold listText
    rw [strLen_append]
    have h2 := textFrom_le (PyData.shownAll xs) 0 "["
    have h3 : (Str.ofString "[").length = 1 := by decide
    have h4 : (Str.ofString "]").length = 1 := by decide
    omega
  | .tuple xs, h => by
    simp only [PyData.shown, wPy]
    have := showns_le xs h
    unfold tupleText
    rw [strLen_append, strLen_append]
    have h2 := join_le (PyData.shownAll xs)
    have h3 : (Str.ofString "(").length = 1 := by decide
    have h4 : (Str.ofString (if (PyData.shownAll xs).length == 1 then ",)" else ")" : String)).length ≤ 2 := by split <;> decide
    omega
  | .dict kvs, h => by
    simp only [PyData.shown, wPy]
    have := shownk_le kvs h
    unfold dictText
    rw [strLen_append, strLen_append]
    have h2 := join_le (PyData.shownKv kvs)
    have h3 : (Str.ofString "{").length = 1 := by decide
    have h4 : (Str.ofString "}").length = 1 := by decide
    omega
theorem showns_le : ∀ ds : List PyData, okPys ds = true → piled (PyData.shownAll ds) ≤ wPys ds
  | [], _ => Nat.le_refl _
  | d :: ds, h => by
    simp only [okPys, Bool.and_eq_true] at h
    simp only [PyData.shownAll, wPys, piled_cons]
    have h1 := shown_le d h.1
    have h2 := showns_le ds h.2
    omega
theorem shownk_le : ∀ kvs : List (PyData × PyData), okPyk kvs = true → piled (PyData.shownKv kvs) ≤ wPyk kvs
  | [], _ => Nat.le_refl _
  | (k, v) :: r, h => by
    simp only [okPyk, Bool.and_eq_true] at h
    simp only [PyData.shownKv, wPyk, piled_cons]
    rw [strLen_append, strLen_append]
    have h1 := shown_le k h.1.1
    have h2 := shown_le v h.1.2
    have h3 := shownk_le r h.2
    have h4 : (Str.ofString ": ").length = 2 := by decide
    omega
end
mutual
theorem ok_show : ∀ d : PyData, okPy d = true → d.showable = true
  | .none, _ => rfl
  | .bool _, _ => rfl
  | .int i, h => by
    have h : i.natAbs < 10 ^ 77 := of_decide_eq_true h
    simp only [PyData.showable]
    exact decide_eq_true (Nat.lt_trans (log_lt (k := 256) (by decide) (Nat.lt_trans h (by decide))) (by decide))
  | .str _, _ => rfl
  | .list xs, h => by simp only [PyData.showable]; exact ok_shows xs h
  | .tuple xs, h => by simp only [PyData.showable]; exact ok_shows xs h
  | .dict kvs, h => by simp only [PyData.showable]; exact ok_showk kvs h
theorem ok_shows : ∀ ds : List PyData, okPys ds = true → PyData.showableAll ds = true
  | [], _ => rfl
  | d :: ds, h => by
    simp only [okPys, Bool.and_eq_true] at h
    simp only [PyData.showableAll, ok_show d h.1, ok_shows ds h.2, Bool.and_self]
theorem ok_showk : ∀ kvs : List (PyData × PyData), okPyk kvs = true → PyData.showableKv kvs = true
  | [], _ => rfl
  | (k, v) :: r, h => by
    simp only [okPyk, Bool.and_eq_true] at h
    simp only [PyData.showableKv, ok_show k h.1.1, ok_show v h.1.2, ok_showk r h.2, Bool.and_self]
end
theorem okPyk_zip : ∀ {a b : List PyData}, okPys a = true → okPys b = true → okPyk (a.zip b) = true
  | [], _, _, _ => rfl
  | _ :: _, [], _, _ => rfl
  | x :: a, y :: b, h1, h2 => by
    simp only [okPys, Bool.and_eq_true] at h1 h2
    simp only [List.zip_cons_cons, okPyk, h1.1, h2.1, okPyk_zip h1.2 h2.2, Bool.and_self]
mutual
theorem pyD_ok : ∀ {d : D} {p : PyData}, pyD d = some p → okPy p = true
  | .non, _, h => by simp only [pyD, Option.some.injEq] at h; subst h; rfl
  | .bl b, _, h => by simp only [pyD, Option.some.injEq] at h; subst h; rfl
  | .int i, _, h => by
    simp only [pyD] at h
    split at h
    · rename_i z; simp only [Option.some.injEq] at h; subst h; exact z
    · cases h
  | .str s, _, h => by
    simp only [pyD] at h
    split at h
    · rename_i z; simp only [Option.some.injEq] at h; subst h; exact z
    · cases h
  | .tup ds, _, h => by
    simp only [pyD, Option.map_eq_some_iff] at h
    obtain ⟨q, h1, rfl⟩ := h
    exact pyDs_ok h1
  | .lst ds, _, h => by
    simp only [pyD, Option.map_eq_some_iff] at h
    obtain ⟨q, h1, rfl⟩ := h
    exact pyDs_ok h1
  | .dct false ks ds, _, h => by
    simp only [pyD] at h
    split at h
    · rename_i a b ea eb
      simp only [Option.some.injEq] at h
      subst h
      exact okPyk_zip (pyDs_ok ea) (pyDs_ok eb)
    · cases h
  | .dct true _ _, _, h => by simp [pyD] at h
  | .fn _, _, h => by simp [pyD] at h
  | .scr _, _, h => by simp [pyD] at h
  | .ins _ _ _, _, h => by simp [pyD] at h
  | .wd _ _, _, h => by simp [pyD] at h
theorem pyDs_ok : ∀ {ds : List D} {ps : List PyData}, pyDs ds = some ps → okPys ps = true
  | [], _, h => by simp only [pyDs, Option.some.injEq] at h; subst h; rfl
  | d :: ds, _, h => by
    simp only [pyDs] at h
    split at h
    · rename_i a b ea eb
      simp only [Option.some.injEq] at h
      subst h
      simp only [okPys, pyD_ok ea, pyDs_ok eb, Bool.and_self]
    · cases h
end

/-! ### what is read from the heap; a dict is not the table of modules -/
mutual
inductive Rdd (h : Heap) : Value → PyData → Prop
  | non : Rdd h .none .none
  | bl (b : Bool) : Rdd h (.bool b) (.bool b)
  | int (i : Int) (t : Tok) : Rdd h (.int i t) (.int i)
  | str (x : Str) (t : Tok) : Rdd h (.str x t) (.str x)
  | lst {a : Addr} {o : Obj} {its : Array Value} {n : Nat} {xs : List PyData} : h.get? a = some o → o.cls = .type "list" → o.data = .seq its n → Rdds h its.toList xs → Rdd h (.ref a) (.list xs)
  | tup {a : Addr} {o : Obj} {its : Array Value} {n : Nat} {xs : List PyData} : h.get? a = some o → o.cls = .type "tuple" → o.data = .seq its n → Rdds h its.toList xs → Rdd h (.ref a) (.tuple xs)
  | dct {a : Addr} {o : Obj} {es : Array DictEntry} {n : Nat} {kvs : List (PyData × PyData)} : h.get? a = some o → o.cls = .type "dict" → o.data = .dict es n → (a == sysModules) = false →
      Rdds h (es.toList.map (·.key)) (kvs.map (·.1)) → Rdds h (es.toList.map (·.val)) (kvs.map (·.2)) → Rdd h (.ref a) (.dict kvs)
inductive Rdds (h : Heap) : List Value → List PyData → Prop
  | nil : Rdds h [] []
  | cons {v : Value} {d : PyData} {vs : List Value} {ds : List PyData} : Rdd h v d → Rdds h vs ds → Rdds h (v :: vs) (d :: ds)
end
section
variable {h : Heap} {P : Program} {w : World}
mutual
theorem Rdd.reads : ∀ {v : Value} {d : PyData}, Rdd h v d → ∃ as, Reads h v d as
  | _, _, .non => ⟨_, .none⟩
  | _, _, .bl b => ⟨_, .bool b⟩
  | _, _, .int i t => ⟨_, .int i t⟩
  | _, _, .str x t => ⟨_, .str x t⟩
  | _, _, .lst e c d r => let ⟨_, q⟩ := Rdds.reads r; ⟨_, .list e c d q⟩
  | _, _, .tup e c d r => let ⟨_, q⟩ := Rdds.reads r; ⟨_, .tuple e c d q⟩
  | _, _, .dct e c d _ r1 r2 => let ⟨_, q1⟩ := Rdds.reads r1; let ⟨_, q2⟩ := Rdds.reads r2; ⟨_, .dict e c d q1 q2⟩
theorem Rdds.reads : ∀ {vs : List Value} {ds : List PyData}, Rdds h vs ds → ∃ as, ReadsAll h vs ds as
  | _, _, .nil => ⟨_, .nil⟩
  | _, _, .cons r rs => let ⟨_, q1⟩ := Rdd.reads r; let ⟨_, q2⟩ := Rdds.reads rs; ⟨_, .cons q1 q2⟩
end
/-- what is shown of a value, and of all of a list; bs: the lists and dicts that it goes through -/
def Show1 (P : Program) (w : World) (h : Heap) (v : Value) (d : PyData) : Prop := ∃ bs, ReadAtMost h d.depth bs ∧ ReprK P w bs h d.depth v d.shown
def ShowA (P : Program) (w : World) (h : Heap) (vs : List Value) (ds : List PyData) : Prop := ∃ bs, ReadAtMost h (PyData.depthAll ds) bs ∧ ReprAllK P w bs h (PyData.depthAll ds) vs (PyData.shownAll ds)
theorem okPyk_fst : ∀ {kvs : List (PyData × PyData)}, okPyk kvs = true → okPys (kvs.map (·.1)) = true ∧ okPys (kvs.map (·.2)) = true
  | [], _ => ⟨rfl, rfl⟩
  | (k, v) :: r, e => by
    simp only [okPyk, Bool.and_eq_true] at e
    obtain ⟨h1, h2⟩ := okPyk_fst e.2
    simp only [List.map_cons, okPys, e.1.1, e.1.2, h1, h2, Bool.and_self, and_self]
theorem deep_out {a : Addr} {d : PyData} {n : Nat} {bs : List Addr} (r : Rdd h (.ref a) d) (lt : n < d.depth) (hb : ReadAtMost h n bs) : a ∉ bs := let ⟨_, q⟩ := r.reads; not_mem_of_deeper q lt hb
theorem deep_put {a : Addr} {d : PyData} {n : Nat} {bs : List Addr} (r : Rdd h (.ref a) d) (lt : n ≤ d.depth) (hb : ReadAtMost h n bs) : ReadAtMost h d.depth (a :: bs) := let ⟨_, q⟩ := r.reads; ReadAtMost.cons q lt hb
mutual
theorem Rdd.shows : ∀ {v : Value} {d : PyData}, Rdd h v d → okPy d = true → d.shown.length ≤ sizeLine → Show1 P w h v d
  | _, _, .non, _, _ => ⟨[], nofun, .of_is ReprIs.none _ _ _⟩
  | _, _, .bl b, _, _ => ⟨[], nofun, .of_is (ReprIs.bool b) _ _ _⟩
  | _, _, .int i t, ok, _ => ⟨[], nofun, .of_is (ReprIs.int t (by simpa [PyData.showable] using ok_show _ ok)) _ _ _⟩
  | _, _, .str x t, _, sz => ⟨[], nofun, .of_is (ReprIs.str x t sz) _ _ _⟩
  | _, _, .lst (a := a) (its := its) (xs := xs) e c d r, ok, sz => by
    obtain ⟨bs, hb, k⟩ := Rdds.shows r ok fun t ht => Nat.le_trans (listText_mem_le ht) sz
    have me : Rdd h (.ref a) (.list xs) := .lst e c d r
    refine ⟨a :: bs, deep_put me (Nat.le_succ _) hb, ?_⟩
    have no := deep_out me (Nat.lt_succ_self _) hb
    simp only [PyData.shown, PyData.depth]
    obtain ⟨l⟩ := its
    match l, k, d, r with
    | [], _, d, r =>
      cases (show Rdds h [] xs from r)
      rw [PyData.shownAll, listText_nil]
      exact .listEmpty e c d
    | y :: l, k, d, _ => exact .list e c d no (by simpa using k.length_eq) fun i z q => k.item i z (by simpa using q)
  | _, _, .tup (a := a) (xs := xs) e c d r, ok, sz => by
    obtain ⟨bs, hb, k⟩ := Rdds.shows r ok fun t ht => Nat.le_trans (tupleText_mem_le ht) sz
    have me : Rdd h (.ref a) (.tuple xs) := .tup e c d r
    refine ⟨a :: bs, deep_put me (Nat.le_succ _) hb, ?_⟩
    have no := deep_out me (Nat.lt_succ_self _) hb
    simp only [PyData.shown, PyData.depth]
    exact .tuple e c d no k
  | _, _, .dct (a := a) (es := es) (kvs := kvs) e c d ns r1 r2, ok, sz => by
    obtain ⟨o1, o2⟩ := okPyk_fst ok
    obtain ⟨b1, hb1, k1⟩ := Rdds.shows r1 o1 fun t ht => let ⟨p, hp, le⟩ := PyData.shownKv_key_le kvs t ht; Nat.le_trans le (Nat.le_trans (dictText_mem_le hp) sz)
    obtain ⟨b2, hb2, k2⟩ := Rdds.shows r2 o2 fun t ht => let ⟨p, hp, le⟩ := PyData.shownKv_val_le kvs t ht; Nat.le_trans le (Nat.le_trans (dictText_mem_le hp) sz)
    have d1 := PyData.depthAll_keys_le kvs
    have d2 := PyData.depthAll_vals_le kvs
    have me : Rdd h (.ref a) (.dict kvs) := .dct e c d ns r1 r2
    have hb := (hb1.mono d1).append (hb2.mono d2)
    refine ⟨a :: (b1 ++ b2), deep_put me (Nat.le_succ _) hb, ?_⟩
    have no := deep_out me (Nat.lt_succ_self _) hb
    simp only [PyData.shown, PyData.shownKv_eq, PyData.depth]
    exact .dict e c d ns no (ReprEntriesK.of_two es.toList _ _ (k1.more_le (fun b z => List.mem_append_left b2 z) d1) (k2.more_le (fun b z => List.mem_append_right b1 z) d2))
theorem Rdds.shows : ∀ {vs : List Value} {ds : List PyData}, Rdds h vs ds → okPys ds = true → (∀ t ∈ PyData.shownAll ds, t.length ≤ sizeLine) → ShowA P w h vs ds
  | _, _, .nil, _, _ => ⟨[], nofun, .nil⟩
  | _, _, .cons (d := d) (ds := ds) r rs, ok, sz => by
    simp only [okPys, Bool.and_eq_true] at ok
    simp only [PyData.shownAll] at sz
    obtain ⟨b1, hb1, k1⟩ := Rdd.shows r ok.1 (sz _ List.mem_cons_self)
    obtain ⟨b2, hb2, k2⟩ := Rdds.shows rs ok.2 fun t z => sz t (List.mem_cons_of_mem _ z)
    refine ⟨b1 ++ b2, (hb1.mono (Nat.le_max_left _ _)).append (hb2.mono (Nat.le_max_right _ _)), ?_⟩
    simp only [PyData.depthAll, PyData.shownAll]
    exact .cons ((k1.more fun b z => List.mem_append_left b2 z).level_le (Nat.le_max_left _ _)) (k2.more_le (fun b z => List.mem_append_right b1 z) (Nat.le_max_right _ _))
end
/-- repr of a list or a dict or a tuple -/
theorem repr_rdd {A : Around} {E : Value → Shared → Prop} {s : Shared} {a : Addr} {d : PyData} {Q : Value → Shared → Prop} (r : Rdd s.heap (.ref a) d) (ok : okPy d = true) (sz : d.shown.length ≤ sizeLine) (gs : A.guards = some []) (hu : A.units + (d.depth + 1) < cLine)
    (k : ∀ h' u tk, (∀ b o, s.heap.get? b = some o → h'.get? b = some o) → Q (.str d.shown u) { s with heap := h', toks := tk }) : wpAny (model P w) A (call (.builtin "repr") [.ref a]) Q E s := by
  cases r with
  | lst e c dt rs =>
    rename_i o its n xs
    have me : Rdd s.heap (.ref a) (.list xs) := .lst e c dt rs
    obtain ⟨bs, hb, kk⟩ := Rdds.shows (P := P) (w := w) rs ok fun t ht => Nat.le_trans (listText_mem_le ht) sz
    refine call_repr_slot (by omega) ⟨o, e, c⟩ F.slot_list_repr.toG ?_
    simp only [PyData.depth] at hu
    simp only [PyData.shown] at k sz
    obtain ⟨l⟩ := its
    match l, kk, dt, rs with
    | [], _, dt, rs =>
      cases (show Rdds s.heap [] xs from rs)
      simp only [PyData.shownAll, listText_nil] at k
      exact call_list_repr_empty ⟨o, e, c⟩ e dt ⟨_, _, rfl, k s.heap _ _ fun _ _ z => z⟩
    | y :: l, kk, dt, _ => exact call_list_reprK e c dt (deep_out me (Nat.lt_succ_self _) hb) (by simpa using kk.length_eq) (fun i z q => kk.item i z (by simpa using q)) gs (fun b _ => Clear.nil b) (by show A.units + 1 + _ < cLine; omega) (fun _ _ z => z) (fun h' u tk z => ⟨_, _, rfl, k h' u tk z⟩) sz
  | tup e c dt rs =>
    rename_i o its n xs
    have me : Rdd s.heap (.ref a) (.tuple xs) := .tup e c dt rs
    obtain ⟨bs, hb, kk⟩ := Rdds.shows (P := P) (w := w) rs ok fun t ht => Nat.le_trans (tupleText_mem_le ht) sz
    refine call_repr_slot (by omega) ⟨o, e, c⟩ F.slot_tuple_repr ?_
    simp only [PyData.depth] at hu
    simp only [PyData.shown] at k sz
    exact call_tuple_reprK e c dt (deep_out me (Nat.lt_succ_self _) hb) kk gs (fun b _ => Clear.nil b) (by show A.units + 1 + _ < cLine; omega) (fun _ _ z => z) (fun h' u tk z => ⟨_, _, rfl, k h' u tk z⟩) sz
  | dct e c dt ns r1 r2 =>
    rename_i o es n kvs
    have me : Rdd s.heap (.ref a) (.dict kvs) := .dct e c dt ns r1 r2
    obtain ⟨o1, o2⟩ := okPyk_fst ok
    obtain ⟨b1, hb1, k1⟩ := Rdds.shows (P := P) (w := w) r1 o1 fun t ht => let ⟨p, hp, le⟩ := PyData.shownKv_key_le kvs t ht; Nat.le_trans le (Nat.le_trans (dictText_mem_le hp) sz)
    obtain ⟨b2, hb2, k2⟩ := Rdds.shows (P := P) (w := w) r2 o2 fun t ht => let ⟨p, hp, le⟩ := PyData.shownKv_val_le kvs t ht; Nat.le_trans le (Nat.le_trans (dictText_mem_le hp) sz)
    have d1 := PyData.depthAll_keys_le kvs
    have d2 := PyData.depthAll_vals_le kvs
    have hb := (hb1.mono d1).append (hb2.mono d2)
    refine call_repr_slot (by omega) ⟨o, e, c⟩ F.slot_dict_repr ?_
    simp only [PyData.depth] at hu
    have sz' := sz
    simp only [PyData.shown, PyData.shownKv_eq] at k sz'
    exact call_dict_reprK e c dt ns (deep_out me (Nat.lt_succ_self _) hb) (ReprEntriesK.of_two es.toList _ _ (k1.more_le (fun b z => List.mem_append_left b2 z) d1) (k2.more_le (fun b z => List.mem_append_right b1 z) d2)) gs (fun b _ => Clear.nil b) (by show A.units + 1 + _ < cLine; omega) (fun _ _ z => z)
      (fun h' u tk z => ⟨_, _, rfl, k h' u tk z⟩) sz'
end

/-! ### data in the abstract heap -/
section
variable {W : Wd} {P : Program} {w : World} {H : Hp} {h : Heap}
theorem pyDs_len : ∀ {ds : List D} {A : List PyData}, pyDs ds = some A → A.length = ds.length
  | [], _, e => by simp only [pyDs, Option.some.injEq] at e; subst e; rfl
  | d :: ds, _, e => by
    simp only [pyDs] at e
    split at e
    · rename_i a b _ eb
      simp only [Option.some.injEq] at e
      subst e
      simp [pyDs_len eb]
    · cases e
theorem rps_len' : ∀ {ds : List D} {vs : List V}, Rps W H ds vs → vs.length = ds.length
  | [], _, e => by rw [show _ = ([] : List V) from e]; rfl
  | _ :: _, _, e => by obtain ⟨_, _, rfl, _, r⟩ := e; simp [rps_len' r]
theorem pairs_val {es : List DictEntry} {vs : List (Key × Value)} (p : Pairs (mixKind P w) es vs) : es.map (·.val) = vs.map (·.2) := by
  induction p with
  | nil => rfl
  | cons _ e _ ih => simp [e, ih]
theorem kv_split : ∀ {kws : List (Key × V)} {vs : List (Key × Value)}, KV kws vs → vs.map (·.1) = kws.map (·.1) ∧ Vals (kws.map (·.2)) (vs.map (·.2)) := fun {kws vs} r => by
  induction r with
  | nil => exact ⟨rfl, .nil⟩
  | cons e _ ih => exact ⟨by simp [e.1, ih.1], .cons e.2 ih.2⟩
theorem keys_rdd : ∀ {ks : List D} {A : List PyData} {kk : List Key} {es : List DictEntry} {vs : List (Key × Value)}, pyDs ks = some A → ks.map keyK = kk.map some → vs.map (·.1) = kk → Pairs (mixKind P w) es vs → Rdds h (es.map (·.key)) A
  | [], A, kk, es, vs, e, e1, e2, p => by
    simp only [pyDs, Option.some.injEq] at e
    subst e
    have : kk = [] := by simpa using e1.symm
    subst this
    have : vs = [] := by simpa using e2
    subst this
    cases p
    exact .nil
  | k :: ks, A, kk, es, vs, e, e1, e2, p => by
    simp only [pyDs] at e
    split at e
    · rename_i a b ea eb
      simp only [Option.some.injEq] at e
      subst e
      cases kk with
      | nil => simp at e1
      | cons q kk =>
        simp only [List.map_cons, List.cons.injEq] at e1
        cases p with
        | nil => simp at e2
        | cons hk hv p =>
          simp only [List.map_cons, List.cons.injEq] at e2
          refine .cons ?_ (keys_rdd eb e1.2 e2.2 p)
          have hk := hk
          rw [e2.1] at hk
          rcases keyIs_shape hk with ⟨i, t, rfl, ev⟩ | ⟨x, t, rfl, ev⟩
          · show Rdd h (DictEntry.key _) a
            rw [ev]
            cases k <;> simp only [keyK, Option.some.injEq, Sum.inl.injEq, reduceCtorEq, false_and] at e1
            rw [e1.1] at ea
            simp only [pyD] at ea
            split at ea
            · simp only [Option.some.injEq] at ea; subst ea; exact .int _ _
            · cases ea
          · show Rdd h (DictEntry.key _) a
            rw [ev]
            cases k <;> simp only [keyK, Option.some.injEq, Sum.inr.injEq, reduceCtorEq, false_and] at e1
            rw [← e1.1]
            simp only [pyD] at ea
            split at ea
            · simp only [Option.some.injEq] at ea; subst ea; exact .str _ _
            · cases ea
    · cases e
theorem zip_fst {α β : Type} : ∀ {a : List α} {b : List β}, a.length = b.length → (a.zip b).map (·.1) = a ∧ (a.zip b).map (·.2) = b
  | [], [], _ => ⟨rfl, rfl⟩
  | x :: a, y :: b, e => by
    obtain ⟨h1, h2⟩ := zip_fst (a := a) (b := b) (by simpa using e)
    simp [h1, h2]
mutual
theorem rdd_of (hok : HOk P w H h) : ∀ {d : D} {v : V} {u : Value} {p : PyData}, pyD d = some p → Rp W H d v → RelV v u → Rdd h u p
  | .non, _, _, _, e, r, q => by simp only [pyD, Option.some.injEq] at e; subst e; rw [show _ = V.non from r] at q; cases q; exact .non
  | .bl b, _, _, _, e, r, q => by simp only [pyD, Option.some.injEq] at e; subst e; rw [show _ = V.bl b from r] at q; cases q; exact .bl b
  | .int i, _, _, _, e, r, q => by
    simp only [pyD] at e
    split at e
    · simp only [Option.some.injEq] at e
      subst e
      rw [show _ = V.int i from r] at q
      obtain ⟨t, rfl⟩ := q
      exact .int _ _
    · cases e
  | .str x, _, _, _, e, r, q => by
    simp only [pyD] at e
    split at e
    · simp only [Option.some.injEq] at e
      subst e
      rw [show _ = V.str ⟨x.toArray⟩ from r] at q
      obtain ⟨t, rfl⟩ := q
      exact .str _ _
    · cases e
  | .tup ds, _, _, _, e, r, q => by
    simp only [pyD, Option.map_eq_some_iff] at e
    obtain ⟨A, ea, rfl⟩ := e
    obtain ⟨a, vs, rfl, ha, rs⟩ := r
    cases (show _ = Value.ref a from q)
    obtain ⟨_, its, rel, o, g, c, n, dt⟩ := hok a _ ha
    exact .tup g c dt (by simpa using rdds_of hok ea rs rel)
  | .lst ds, _, _, _, e, r, q => by
    simp only [pyD, Option.map_eq_some_iff] at e
    obtain ⟨A, ea, rfl⟩ := e
    obtain ⟨a, vs, rfl, ha, rs⟩ := r
    cases (show _ = Value.ref a from q)
    obtain ⟨_, its, n, rel, g⟩ := hok a _ ha
    exact .lst g rfl rfl (by simpa using rdds_of hok ea rs rel)
  | .dct false ks ds, _, _, _, e, r, q => by
    simp only [pyD] at e
    split at e
    · rename_i A B ea eb
      simp only [Option.some.injEq] at e
      subst e
      obtain ⟨a, ws, rfl, dr, rs⟩ := r
      cases (show _ = Value.ref a from q)
      rcases dr with ⟨_, kk, h1, h2, h3⟩ | ⟨z, _⟩
      · obtain ⟨_, ns, vs, kv, o, es, ep, g, ex, dt, _, pr, _⟩ := hok a _ h3
        obtain ⟨e1, e2⟩ := kv_split kv
        obtain ⟨z1, z2⟩ := zip_fst (a := kk) (b := ws) h2
        rw [z1] at e1
        rw [z2] at e2
        have l1 := pyDs_len ea
        have l2 := pyDs_len eb
        have l3 := rps_len' rs
        have l4 : ks.length = kk.length := by simpa using congrArg List.length h1
        obtain ⟨y1, y2⟩ := zip_fst (a := A) (b := B) (by omega)
        refine .dct g ex.1 dt ns ?_ ?_
        · rw [y1]; exact keys_rdd ea h1 e1 pr
        · rw [y2, pairs_val pr]; exact rdds_of hok eb rs e2
      · cases z
    · cases e
  | .dct true _ _, _, _, _, e, _, _ => by simp [pyD] at e
  | .fn _, _, _, _, e, _, _ => by simp [pyD] at e
  | .scr _, _, _, _, e, _, _ => by simp [pyD] at e
  | .ins _ _ _, _, _, _, e, _, _ => by simp [pyD] at e
  | .wd _ _, _, _, _, e, _, _ => by simp [pyD] at e
theorem rdds_of (hok : HOk P w H h) : ∀ {ds : List D} {vs : List V} {us : List Value} {ps : List PyData}, pyDs ds = some ps → Rps W H ds vs → Vals vs us → Rdds h us ps
  | [], _, _, _, e, r, q => by
    simp only [pyDs, Option.some.injEq] at e
    subst e
    rw [show _ = ([] : List V) from r] at q
    cases q
    exact .nil
  | d :: ds, _, _, _, e, r, q => by
    simp only [pyDs] at e
    split at e
    · rename_i A B ea eb
      simp only [Option.some.injEq] at e
      subst e
      obtain ⟨v, t, rfl, r1, r2⟩ := r
      cases q with
      | cons q1 q2 => exact .cons (rdd_of hok ea r1 q1) (rdds_of hok eb r2 q2)
    · cases e
end
end

/-! ### the rules -/
section
variable {X : Cx} {W : Wd} {E : XK} {Es : SX} {α : Nat → Addr} {F : Hp} {S : Sto} {H : Hp} {x : Vl} {v : V} {a e : Expr} {es : List Expr} {pos p1 p2 p3 : Pos} {fa : Env → Sto → Res Vl} {fs : Env → Sto → Res (List Vl)}
theorem deeps_rp {n : Nat} (ih : ∀ {x : Vl} {v : V} {d : D}, VlR W α F S.length x v → deep S n x = some d → Rp W H d v) : ∀ {xs : List Vl} {vs : List V} {ds : List D}, VlRs W α F S.length xs vs → deep.deeps S n xs = some ds → Rps W H ds vs
  | [], _, _, r, h => by
    simp only [deep.deeps, Option.some.injEq] at h
    subst h
    cases r
    rfl
  | x :: xs, _, _, r, h => by
    simp only [deep.deeps] at h
    split at h
    · rename_i d ds e1 e2
      simp only [Option.some.injEq] at h
      subst h
      cases r with
      | cons r1 r2 => exact ⟨_, _, rfl, ih r1 e1, deeps_rp ih r2 e2⟩
    · cases h
theorem deep_rp (s : Sr W α F S H) : ∀ (n : Nat) {x : Vl} {v : V} {d : D}, VlR W α F S.length x v → deep S n x = some d → Rp W H d v
  | n, .d x, v, d, r, h => by
    have h : some x = some d := by cases n <;> simpa only [deep] using h
    cases h
    exact Rp.mono s.sub r
  | 0, .p _, _, _, _, h => by simp [deep] at h
  | n + 1, .p i, _, _, r, h => by
    obtain ⟨ev, hl⟩ := (show _ = V.ref (α i) ∧ i < S.length from r)
    simp only [deep] at h
    split at h
    · rename_i xs e
      simp only [Option.map_eq_some_iff] at h
      obtain ⟨ds, h, rfl⟩ := h
      obtain ⟨vs, q, rr⟩ := s.cel i _ e
      exact ⟨_, vs, ev, q, deeps_rp (deep_rp s n) rr h⟩
    · rename_i t kvs e
      simp only [Option.map_eq_some_iff] at h
      obtain ⟨ds, h, rfl⟩ := h
      obtain ⟨ws, q, rr⟩ := s.cel i _ e
      exact ⟨_, ws, ev, q, deeps_rp (deep_rp s n) rr h⟩
    · cases h
theorem str_eta (t : Str) : (⟨(t.cps.toList).toArray⟩ : Str) = t := by cases t; simp
/-- repr of a list, a tuple or a dict -/
def rRepr (W : Wd) : List V → Hp → VK → Prop := fun vs H Q => ∃ (b : Addr) (d : D) (p : PyData), vs = [V.ref b] ∧ Rp W H d (V.ref b) ∧ pyD d = some p ∧ fits p = true ∧ Q (.str p.shown) H
theorem cr_repr (gs : X.A.guards = some []) (hu : X.A.units + 100 < cLine) : CallR X (.builtin "repr") (rRepr W) := by
  intro pins s σ H xs us Q I r h
  obtain ⟨b, d, p, rfl, rp, e, f, q⟩ := h
  rw [Vals.ref1 r]
  unfold fits at f
  rw [Bool.and_eq_true, decide_eq_true_eq, decide_eq_true_eq] at f
  have ok := pyD_ok e
  have sz : p.shown.length ≤ sizeLine := by rw [sizeLine_eq]; exact Nat.le_trans (shown_le p ok) f.1
  exact repr_rdd (rdd_of (H := H) I.hok e rp rfl) ok sz gs (by omega) fun h' u tk hk => ⟨.str p.shown, H, I.kept (t' := tk) hk, ⟨u, rfl⟩, q⟩
theorem boot_repr' : bootBuiltins "repr" = some (.builtin "repr") := by decide +kernel
theorem boot_set' : bootBuiltins "set" = some (.type "set") := by decide +kernel
theorem de_repr1 {cell : Bool} (gs : X.A.guards = some []) (hu : X.A.units + 100 < cLine) (hg : Gl X "repr") (hm : X.mg "repr" = none) (hs : notStar a = true) (ha : PE X a (tD W Es fa)) :
    PE X (.Call (.Name "repr" p1) [a] [] pos) (tD W Es fun ρ S => (consF fa nilF ρ S).bind fun vs S => builtin .repr cell vs S) := by
  refine peI (pe_callB (cr_repr (W := W) gs hu) hg hm boot_repr' (pa_cons ha pa_nil (star_cons hs)) (by decide) (by decide) (star_cons hs) rfl) fun σ H Q ⟨α, F, ρ, S, s, er, p⟩ => ?_
  have p : Post W (Es σ) (VlX W) α F S H ((fa ρ S).bind fun v S => bRepr v S) Q := by
    have e : (consF fa nilF ρ S).bind (fun vs S => builtin .repr cell vs S) = (fa ρ S).bind fun v S => bRepr v S := by
      unfold consF
      cases fa ρ S <;> rfl
    dsimp only at p
    rw [e] at p
    exact p
  refine ⟨α, F, ρ, S, s, er, (Post.bind (Rel := VlX W) p).imp fun v H1 ⟨α1, F1, y, S1, x1, s1, r1, q1⟩ => ?_⟩
  dsimp only at q1
  unfold bRepr at q1
  split at q1
  · rename_i d hd
    split at q1
    · rename_i hb
      split at q1
      · rename_i pd hp
        split at q1
        · rename_i hf
          have rp := deep_rp s1 8 r1 hd
          have : ∃ b, v = V.ref b := by
            cases d
            case lst ds => obtain ⟨b, _, eb, _⟩ := rp; exact ⟨b, eb⟩
            case tup ds => obtain ⟨b, _, eb, _⟩ := rp; exact ⟨b, eb⟩
            case dct t ks ds => obtain ⟨b, _, eb, _⟩ := rp; exact ⟨b, eb⟩
            all_goals exact absurd hb (by simp [isBox])
          obtain ⟨b, rfl⟩ := this
          exact ⟨b, d, pd, rfl, rp, hp, hf, q1.here s1 (congrArg V.str (str_eta _).symm)⟩
        · exact q1.elim
      · exact q1.elim
    · exact q1.elim
  · exact q1.elim
theorem de_rep (gs : X.A.guards = some []) (hu : X.A.units + 100 < cLine) (hg : Gl X "repr") (hm : X.mg "repr" = none) (ha : PA X es (tDA W Es fs)) :
    PE X (.Call (.Name "repr" p1) [.List es p2] [] pos) (tD W Es fun ρ S => (fs ρ S).bind fun vs S => bRep vs S) := by
  refine peI (pe_callB (cr_repr (W := W) gs hu) hg hm boot_repr' (pa_cons (pe_lst ha) pa_nil)) fun σ H Q ⟨α, F, ρ, S, s, er, p⟩ => ?_
  refine ⟨α, F, ρ, S, s, er, (Post.bind (Rel := VlXs W) p).imp fun us H1 ⟨α1, F1, xs, S1, x1, s1, r1, q1⟩ => ?_⟩
  dsimp only at q1
  unfold bRep at q1
  split at q1
  · rename_i ds hd
    split at q1
    · rename_i ps hp
      split at q1
      · rename_i hf
        have rp := deeps_rp (deep_rp s1 8) r1 hd
        have hl := rps_len' rp
        have h2 := pyDs_len hp
        refine ⟨?_, fun l hn => ?_⟩
        · have hw : ∀ ps : List PyData, ps.length ≤ wPys ps := fun ps => by
            induction ps with
            | nil => exact Nat.zero_le _
            | cons p ps ih => simp only [List.length_cons, wPys]; omega
          have hq := hw ps
          unfold fits at hf
          rw [Bool.and_eq_true, decide_eq_true_eq, decide_eq_true_eq] at hf
          have hq2 : wPys ps + 2 ≤ 16777216 := hf.1
          rw [sizeLine_eq]
          omega
        · have sub : Sub H1 (upd H1 l (.lst us)) := fun b o h => by
            rw [upd_ne fun z => by rw [z, hn] at h; cases h]
            exact h
          refine ⟨l, .lst ds, .list ps, rfl, ⟨l, us, rfl, upd_same, rp.mono sub⟩, by simp only [pyD, hp, Option.map_some], hf, ?_⟩
          exact q1 _ α1 F1 _ (Ext.refl.oth hn) (s1.oth (s1.oth0 hn)) (congrArg V.str (str_eta _).symm)
      · exact q1.elim
    · exact q1.elim
  · exact q1.elim
/-- set(a list of ints) -/
def rSetLi (K : PySem.W.Frag) (w : World) : List V → Hp → VK → Prop := fun vs H Q => ∃ (l : Addr) (ms : List Int), vs = [V.ref l] ∧ SqL K H l (ms.map V.int) ∧ ms.length < 63 ∧ ∀ p c, c ≤ ms.length → H p = none → Q (.ref p) (upd H p (SetO w p (fun j => decide (j ∈ ms)) c))
theorem ints_vals : ∀ {ms : List Int} {us : List Value}, Vals (ms.map V.int) us → PyProof.Rows.IntsAre us ms
  | [], _, .nil => .nil
  | m :: ms, _, .cons r t => by
    obtain ⟨k, rfl⟩ := r
    exact .cons m k (ints_vals t)
theorem cr_setLi (hc : X.calm = true) : CallR X (.type "set") (rSetLi X.K X.w) := by
  intro pins s σ H xs us Q I r h
  obtain ⟨l, ms, rfl, sq, sz, q⟩ := h
  rw [Vals.ref1 r]
  obtain ⟨its, rel, pl, _⟩ := I.list sq
  refine call_set_lstI ms (I.ok.hd hc) pl.isList (by simpa using ints_vals rel) (by unfold scanBound; omega) fun h' tk c R le hk => ?_
  exact ⟨.ref s.heap.objs.size, _, I.laid (t' := tk) hk (Nat.le_refl _) (setO_new R), rfl, q _ c le (I.hok.fresh (Nat.le_refl _))⟩
theorem ssort_mem {k : Int} : ∀ {ms : List Int}, k ∈ ssort ms ↔ k ∈ ms
  | [] => Iff.rfl
  | m :: ms => by
    show k ∈ sins m (ssort ms) ↔ _
    rw [sins_mem, List.mem_cons, ssort_mem]
theorem ssort_sorted : ∀ {ms : List Int}, (ssort ms).Pairwise (· < ·)
  | [] => .nil
  | m :: ms => sins_sorted (ssort_sorted (ms := ms))
theorem de_sset {cell : Bool} (hc : X.calm = true) (hg : Gl X "sorted") (hm : X.mg "sorted" = none) (hg2 : Gl X "set") (hm2 : X.mg "set" = none) (hs : notStar a = true) (ha : PE X a (tD W Es fa)) :
    PE X (.Call (.Name "sorted" p1) [.Call (.Name "set" p2) [a] [] p3] [] pos) (tD W Es fun ρ S => (consF fa nilF ρ S).bind fun vs S => builtin .sset cell vs S) := by
  refine peI (pe_callB (cr_sortedSet hc) hg hm boot_sorted' (pa_cons (pe_callTy (cr_setLi hc) hg2 hm2 boot_set' (pa_cons ha pa_nil (star_cons hs)) (by decide) (by decide) (star_cons hs) rfl) pa_nil)) fun σ H Q ⟨α, F, ρ, S, s, er, p⟩ => ?_
  have p : Post W (Es σ) (VlX W) α F S H ((fa ρ S).bind fun v S => bSset cell v S) Q := by
    have e : (consF fa nilF ρ S).bind (fun vs S => builtin .sset cell vs S) = (fa ρ S).bind fun v S => bSset cell v S := by
      unfold consF
      cases fa ρ S <;> rfl
    dsimp only at p
    rw [e] at p
    exact p
  refine ⟨α, F, ρ, S, s, er, (Post.bind (Rel := VlX W) p).imp fun v H1 ⟨α1, F1, y, S1, x1, s1, r1, q1⟩ => ?_⟩
  dsimp only at q1
  unfold bSset at q1
  split at q1
  · rename_i xs ex
    split at q1
    · rename_i ds px
      split at q1
      · rename_i ms hi
        split at q1
        · rename_i hz
          have hz := of_decide_eq_true hz
          obtain ⟨b, us, rfl, q2, r2⟩ := r1.list s1 ex
          have := intL_v hi (r2.pures px)
          subst this
          refine ⟨b, ms, rfl, .inl (.inl q2), hz, fun d0 c le hn => ⟨d0, _, c, rfl, upd_same, by omega, fun ns l srt mem len hl => ?_⟩⟩
          have e1 : ns = ssort ms := sorted_same srt ssort_sorted fun k => by rw [mem k, ssort_mem]; exact decide_eq_true_iff
          subst e1
          have s2 := s1.oth (u := SetO X.w d0 (fun j => decide (j ∈ ms)) c) (s1.oth0 hn)
          exact (fin_new (Post.rebase (Ext.refl.oth hn) q1) s2 (int_vls (ssort ms))).2 l hl
        · exact q1.elim
      · exact q1.elim
    · exact q1.elim
  · exact q1.elim
theorem boot_dict' : bootBuiltins "dict" = some (.type "dict") := by decide +kernel
theorem zip_map_fst {τ : Type} : ∀ {ks : List D} {xs : List τ}, ks.length = xs.length → (ks.zip xs).map (·.1) = ks ∧ (ks.zip xs).map (·.2) = xs
  | [], [], _ => ⟨rfl, rfl⟩
  | k :: ks, x :: xs, e => by
    obtain ⟨h1, h2⟩ := zip_map_fst (ks := ks) (xs := xs) (by simpa using e)
    simp [h1, h2]
theorem de_dict1 {cell : Bool} (hg : Gl X "dict") (hm : X.mg "dict" = none) (hs : notStar a = true) (ha : PE X a (tD W Es fa)) : PE X (.Call (.Name "dict" p1) [a] [] pos) (tD W Es fun ρ S => (consF fa nilF ρ S).bind fun vs S => builtin .dict cell vs S) := by
  refine peI (pe_callTy call_dictD hg hm boot_dict' (pa_cons ha pa_nil (star_cons hs)) (by decide) (by decide) (star_cons hs) rfl) fun σ H Q ⟨α, F, ρ, S, s, er, p⟩ => ?_
  have p : Post W (Es σ) (VlX W) α F S H ((fa ρ S).bind fun v S => bDict cell v S) Q := by
    have e : (consF fa nilF ρ S).bind (fun vs S => builtin .dict cell vs S) = (fa ρ S).bind fun v S => bDict cell v S := by
      unfold consF
      cases fa ρ S <;> rfl
    dsimp only at p
    rw [e] at p
    exact p
  refine ⟨α, F, ρ, S, s, er, (Post.bind (Rel := VlX W) p).imp fun v H1 ⟨α1, F1, y, S1, x1, s1, r1, q1⟩ => ?_⟩
  dsimp only at q1
  have go : ∀ {b : Addr} {ks : List D} {kk : List Key} {ws : List V} {kvs : List (D × Vl)}, ks.map keyK = kk.map some → kk.length = ws.length → H1 b = some (.dK (kk.zip ws)) → kvs.map (·.1) = ks → VlRs W α1 F1 S1.length (kvs.map (·.2)) ws → Post W (Es σ) (VlX W) α1 F1 S1 H1 (newDct false cell kvs S1) Q →
      ∃ (a : Addr) (kv : List (Key × V)), [V.ref b] = [V.ref a] ∧ Rd H1 a (.dK kv) ∧ ∀ p, H1 p = none → Q (.ref p) (upd H1 p (.dK kv)) := fun {b ks kk ws kvs} h1 h2 h3 h4 h5 q => by
    refine ⟨b, kk.zip ws, rfl, .inl h3, fun d0 hd => ?_⟩
    have o := s1.oth0 hd
    exact fin_dct q (Ext.refl.oth hd) (s1.oth o) hd o (.inl ⟨rfl, kk, by rw [h4]; exact h1, h2, upd_same⟩) h5
  cases y with
  | p n =>
    obtain ⟨ev, _⟩ := (show v = V.ref (α1 n) ∧ n < S1.length from r1)
    subst ev
    simp only [bDict] at q1
    split at q1
    · rename_i kvs hn
      obtain ⟨ws, dr, rr⟩ := s1.cel n _ hn
      rcases dr with ⟨_, kk, h1, h2, h3⟩ | ⟨z, _⟩
      · exact go h1 h2 h3 rfl rr q1
      · cases z
    · exact q1.elim
  | d z =>
    unfold bDict at q1
    split at q1
    · rename_i ks ds e
      cases e
      obtain ⟨b, ws, rfl, dr, rs⟩ := r1
      rcases dr with ⟨_, kk, h1, h2, h3⟩ | ⟨z, _⟩
      · have l3 := rps_len' rs
        have l4 : ks.length = kk.length := by simpa using congrArg List.length h1
        obtain ⟨y1, y2⟩ := zip_map_fst (ks := ks) (xs := ds.map Vl.d) (by rw [List.length_map]; omega)
        exact go h1 h2 (s1.sub _ _ h3) y1 (by rw [y2]; exact VlRs.of_pure rs) q1
      · cases z
    · rename_i e; cases e
    · exact q1.elim
end
end Z
end

section
set_option maxRecDepth 100000
set_option maxHeartbeats 2000000
/-! G4: sorted(xs, key=f), f a def of the text. -/
namespace Z
open PySem PySem.Spec PyProof.Rows L2
section
variable {X : Cx} {pins : List (Addr × Obj)} {σ : L2.St} {H : Hp} {s : Shared}
/-- an address of ours that nothing else knows -/
structure Ours (X : Cx) (pins : List (Addr × Obj)) (z : Addr) : Prop where
  loc : z ≠ X.env.locals
  sz : X.s_0.heap.objs.size ≤ z
  cl : ∀ x c, X.env.cells.lookup x = some c → c ≠ z
  pn : ∀ p ∈ X.pn ++ pins, p.1 ≠ z
  fs : z ∉ X.fs
theorem Ours.of (I : Inv X pins σ H s) {z : Addr} (h : s.heap.objs.size ≤ z) : Ours X pins z where
  loc := Nat.ne_of_gt (Nat.lt_of_lt_of_le I.lt h)
  sz := Nat.le_trans I.sz h
  cl := fun x c e q => by
    obtain ⟨v, o, ho, _⟩ := I.cell x c e
    subst q
    exact absurd (Heap.lt_size ho) (Nat.not_lt.mpr h)
  pn := fun p hp q => by
    have e := (I.pin p hp).1
    rw [q] at e
    exact absurd (Heap.lt_size e) (Nat.not_lt.mpr h)
  fs := I.nofs h
/-- two untracked objects of ours have changed -/
theorem moved2 (I : Inv X pins σ H s) {h' : Heap} {t' : Nat} {x y : Addr} (k : ∀ b o, b ≠ x → b ≠ y → s.heap.get? b = some o → h'.get? b = some o) (ox : Ours X pins x) (oy : Ours X pins y) (nx : H x = none) (ny : H y = none) :
    Inv X pins σ H { s with heap := h', toks := t' } := by
  have no : ∀ b u, H b = some u → b ≠ x ∧ b ≠ y := fun b u e => ⟨ne_of_none e nx, ne_of_none e ny⟩
  have kc : ∀ b o, b ∉ [x, y] → s.heap.get? b = some o → h'.get? b = some o := fun b o hb e => k b o (fun z => hb (by simp [z])) (fun z => hb (by simp [z])) e
  refine I.step (g' := s.gens) (d' := s.drawn) (ch := [x, y]) (fun b hb => ?_) (fun b o _ _ hc e _ => kc b o hc e) (fun b o _ _ hc e _ => ⟨o.slots, kc b o hc e⟩) (fun _ _ _ _ n => n) (fun b o hc e => ⟨o, kc b o hc e⟩)
    (fun _ _ e => e) (fun _ _ _ e => e) (fun b ps e => ⟨#[], by rw [e]; simp⟩) (fun m hm => ?_) (fun b u e => ?_) I.bare
  · have hb : b = x ∨ b = y := by simpa using hb
    rcases hb with rfl | rfl
    · exact ⟨.inr ox.sz, ox.loc, ox.cl, ox.pn⟩
    · exact ⟨.inr oy.sz, oy.loc, oy.cl, oy.pn⟩
  · obtain ⟨o, es, ep, ho, r⟩ := hm
    exact ⟨o, es, ep, k _ o (Ne.symm ox.loc) (Ne.symm oy.loc) ho, r⟩
  · refine (I.hok b u e).stay (fun c v hc q => ?_) (fun _ q => q) fun _ _ q => q
    have hh : ∃ u, H c = some u := by rcases hc with rfl | z <;> exact ⟨_, by assumption⟩
    obtain ⟨u', eu⟩ := hh
    exact k c v (no c u' eu).1 (no c u' eu).2 q
/-- an object of ours is tracked from here on -/
theorem track (I : Inv X pins σ H s) {a : Addr} {o : HO} (oa : Ours X pins a) (na : H a = none) (new : ObjOk X.prog X.w (upd H a o) s.heap a o) : Inv X pins σ (upd H a o) s := by
  have ne : ∀ {b : Addr} {u : HO}, H b = some u → upd H a o b = some u := fun {b u} e => by rw [upd_ne (ne_of_none e na)]; exact e
  refine I.step (h' := s.heap) (g' := s.gens) (d' := s.drawn) (t' := s.toks) (ch := [a]) (fun b hb => ?_) (fun b o _ _ _ e _ => e) (fun b o _ _ _ e _ => ⟨o.slots, e⟩) (fun b o hc _ n => ?_) (fun b o _ e => ⟨o, e⟩) (fun b xs e => ne e) (fun b o u e => ne e)
    (fun b ps e => ⟨#[], by rw [ne e]; simp⟩) (fun m hm => hm) (I.hok.laidN (fun _ _ e => e) na new) I.bare
  · have e : b = a := by simpa using hb
    subst e
    exact ⟨.inr oa.sz, oa.loc, oa.cl, oa.pn⟩
  · rw [upd_ne (by simpa using hc)]
    exact n
end

/-! ### the keys, one after the other -/
section
variable {X : Cx} {W : Wd} {E : XK} {α : Nat → Addr} {F : Hp} {S : Sto} {pins : List (Addr × Obj)} {σ : L2.St} {H : Hp} {s : Shared} {k f : Nat} {fd : FuncData} {ps : List Str} {rc : Nat → List Vl → Sto → Res Vl} {Q : VK}
/-- one key: f(x), run further inside -/
theorem key_call {A : Around} {x : Value} {v : V} {d kd : D} {S' : Sto} (Fk : FnG X.prog X.w X.K X.mg X.base k (W.fa f) fd ps (spF W rc f)) (g : RoomG k A) (b : Binds X.K fd ps []) (fr : A.frames = X.A.frames) (I : Inv X pins σ H s) (sr : Sr W α F S H) (rp : Rp W F d v) (rv : RelV v x)
    (e : rc f [.d d] S = .ok (.d kd) S') : wpAny (model X.prog X.w) A (call (.ref (W.fa f)) [x]) (EP X pins σ fun w H2 => ∃ α2 F2, Ext α F S H α2 F2 S' H2 ∧ Sr W α2 F2 S' H2 ∧ Rp W F2 kd w) (fun _ _ => False) s := by
  have want : spF W rc f [v] H (fun w H2 => ∃ α2 F2, Ext α F S H α2 F2 S' H2 ∧ Sr W α2 F2 S' H2 ∧ Rp W F2 kd w) E0 := ⟨α, F, S, [.d d], sr, .cons rp .nil, by rw [e]; exact fun w α2 F2 H2 x2 s2 r2 => ⟨α2, F2, x2, s2, r2⟩⟩
  have bb := b s [x] I.kIn (by rw [List.append_nil]; exact Fk.len _ _ _ _ want)
  rw [List.append_nil] at bb
  have e0 := I.env0
  refine wpAny_call (codeAny_mono (Fk.go g ⟨fr.trans e0.frames, e0.mod, e0.bs, e0.bsz, e0.funs, e0.frf, e0.hok, e0.bare⟩ bb (.cons rv .nil) want) fun res s' z => ?_)
  cases res
  case error e =>
    obtain ⟨_, _, _, _, _, _, _, _, _, _, _, _, z⟩ := z
    exact z
  case ok fl =>
    cases fl
    case ret u => exact Inv.after I z
    all_goals exact (show False from z).elim
/-- what stands when i keys are made -/
structure KeyAt (X : Cx) (W : Wd) (pins : List (Addr × Obj)) (σ : L2.St) (a kS : Addr) (e1 : Nat) (α : Nat → Addr) (F : Hp) (S : Sto) (H : Hp) (kd : List D) (αi : Nat → Addr) (Fi : Hp) (Si : Sto) (Hi : Hp) (kA : Array Value) (e : Nat) (kv : List V) (t : Shared) : Prop where
  I : Inv X ((kS, seqObj "list" kA e) :: (a, seqObj "list" #[] e1) :: pins) σ Hi t
  x : Ext α F S H αi Fi Si Hi
  s : Sr W αi Fi Si Hi
  r : Rps W Fi kd kv
  v : Vals kv kA.toList
/-- keys that sorted takes -/
theorem keys_data {kd : List D} {kv : List V} {us : List Value} (hK : W.K = X.K) (I : Inv X pins σ H s) (sr : Sr W α F S H) (r : Rps W F kd kv) (v : Vals kv us) (ok : sortOk kd = true) :
    PySem.W.AllAlike (kd.map toPy) ∧ PySem.W.Sortable (kd.map toPy) ∧ PySem.W.EachIs (fun v k => ∃ as, Reads s.heap v k as) us (kd.map toPy) ∧ ∀ d ∈ kd.map toPy, d.depth ≤ 64 := by
  unfold sortOk at ok
  rw [Bool.and_eq_true, List.all_eq_true] at ok
  obtain ⟨o1, o2⟩ := ok
  have o1 : ∀ a ∈ kd, isData 64 a = true ∧ ∀ b ∈ kd, alikeD a b = true := fun a ha => by
    have := o1 a ha
    rw [Bool.and_eq_true, List.all_eq_true] at this
    exact this
  refine ⟨fun d hd d' hd' => ?_, ?_, ?_, fun d hd => ?_⟩
  · obtain ⟨a, ha, rfl⟩ := List.mem_map.mp hd
    obtain ⟨b, hb, rfl⟩ := List.mem_map.mp hd'
    exact (o1 a ha).2 b hb
  · rw [Bool.or_eq_true, List.all_eq_true, List.all_eq_true] at o2
    rcases o2 with h | h
    · refine .inl fun d hd => ?_
      obtain ⟨a, ha, rfl⟩ := List.mem_map.mp hd
      have := h a ha
      cases a with
      | tup ds =>
        cases ds with
        | nil => cases this
        | cons y ys => exact ⟨toPy y, toPys ys, rfl⟩
      | _ => cases this
    · refine .inr fun d hd => ?_
      obtain ⟨a, ha, rfl⟩ := List.mem_map.mp hd
      have h1 := h a ha
      have h2 := (o1 a ha).1
      cases a <;> first | (cases h1; done) | (cases h2; done) | (refine ⟨(fun z => nomatch z), (fun _ z => nomatch z)⟩)
  · have key : ∀ {kd : List D} {kv : List V} {us : List Value}, (∀ a ∈ kd, isData 64 a = true) → Rps W F kd kv → Vals kv us → PySem.W.EachIs (fun v k => ∃ as, Reads s.heap v k as) us (kd.map toPy) := by
      intro kd
      induction kd with
      | nil => intro kv us _ r v; cases (show kv = [] from r); cases v; exact .nil
      | cons a kd ih =>
        intro kv us h r v
        obtain ⟨w, t, rfl, r1, r2⟩ := r
        cases v with
        | cons v1 v2 => exact .cons (Dp.reads I _ _ _ (dp_of hK sr.sub 64 _ _ (h a (List.mem_cons_self ..)) r1) v1) (ih (fun b hb => h b (List.mem_cons_of_mem _ hb)) r2 v2)
    exact key (fun a ha => (o1 a ha).1) r v
  · obtain ⟨a, ha, rfl⟩ := List.mem_map.mp hd
    exact SeqAt.depth_of_shaped (shaped_of (o1 a ha).1)
theorem rps_snoc {F : Hp} {d : D} {v : V} (h : Rp W F d v) : ∀ {ds : List D} {vs : List V}, Rps W F ds vs → Rps W F (ds ++ [d]) (vs ++ [v])
  | [], _, e => by cases (show _ = ([] : List V) from e); exact ⟨v, [], rfl, h, rfl⟩
  | _ :: _, _, e => by obtain ⟨w, t, rfl, r1, r2⟩ := e; exact ⟨w, t ++ [v], rfl, r1, rps_snoc h r2⟩
theorem key_rest {A : Around} {b : Bool} {us : List Value} {vs : List V} {ds : List D} {a kS : Addr} {e1 : Nat} {t : Shared} {P : PySem.Fin → Shared → Prop} {Er : Value → Shared → Prop} {fin : List D → Sto → Res Vl} (hK : W.K = X.K)
    (Fk : FnG X.prog X.w X.K X.mg X.base k (W.fa f) fd ps (spF W rc f)) (g : RoomG k A) (bi : Binds X.K fd ps []) (fr : A.frames = X.A.frames) (hu : A.units + 100 < cLine) (oa : Ours X pins a) (oS : Ours X pins kS) (ne : kS ≠ a)
    (I : Inv X ((kS, seqObj "list" #[] 0) :: (a, seqObj "list" #[] e1) :: pins) σ H t) (sr : Sr W α F S H) (rs : Rps W F ds vs) (rv : Vals vs us) (sz : us.length ≤ sizeLine)
    (p : Post W E (VlX W) α F S H ((keysRun rc f ds S).bind fin) Q)
    (done : ∀ kd Sn αn Fn Hn kA e kv tn h' tk out c, keysRun rc f ds S = .ok kd Sn → KeyAt X W pins σ a kS e1 α F S H kd αn Fn Sn Hn kA e kv tn → (∀ b o, b ≠ a → b ≠ kS → tn.heap.get? b = some o → h'.get? b = some o) → h'.get? a = some (seqObj "list" (List.toArray out) c) →
      PySem.W.KeyedOut b (kd.map toPy) us out → P (.done (.ret .none)) { tn with heap := h', toks := tk })
    (ok : ∀ kd Sn, keysRun rc f ds S = .ok kd Sn → sortOk kd = true) :
    wpAny (model X.prog X.w) A (ksk_rest a (.ref (W.fa f)) b us.toArray e1 (.ref kS)) P Er t := by
  have hlen : us.length = vs.length := rv.length.symm
  have hl2 : ds.length = vs.length := rs.length
  obtain ⟨kall, Sn, hall⟩ : ∃ kd Sn, keysRun rc f ds S = .ok kd Sn := by
    cases q : keysRun rc f ds S with
    | ok kd Sn => exact ⟨kd, Sn, rfl⟩
    | bad => rw [q] at p; exact p.elim
    | exc ee Sx =>
      exfalso
      cases ds with
      | nil => cases q
      | cons d ds =>
        unfold keysRun at q
        split at q
        · split at q <;> cases q
        · cases q
  unfold ksk_rest
  refine wpAny_bind (wpAny_rule ?_)
  first
    | rw [List.forIn_toArray]
    | (rw [← Array.forIn_toList]; simp only [List.toList_toArray])
  refine wpAny_bind (ksk_fold (fun i t' => ∃ kd αi Fi Si Hi kA e kv, KeyAt X W pins σ a kS e1 α F S H kd αi Fi Si Hi kA e kv t' ∧ kd.length = i ∧ ∃ ks, keysRun rc f (ds.drop i) Si = .ok ks Sn ∧ kd ++ ks = kall) us 0 t
    ⟨[], α, F, S, H, #[], 0, [], ⟨I, Ext.refl, sr, rfl, .nil⟩, rfl, kall, hall, rfl⟩ ?step ?end_)
  case step =>
    rintro j x t' hx ⟨kd, αi, Fi, Si, Hi, kA, e, kv, C, hkl, ks, hks, hcat⟩
    simp only [Nat.zero_add] at hkl hks ⊢
    have hj : j < us.length := (List.getElem?_eq_some_iff.mp hx).1
    obtain ⟨d, hd⟩ : ∃ d, ds[j]? = some d := ⟨_, List.getElem?_eq_getElem (by omega)⟩
    obtain ⟨v, hv, rd⟩ := rs.get hd
    obtain ⟨x', hx', rx⟩ := rv.get hv
    rw [hx] at hx'
    cases hx'
    have hdrop : ds.drop j = d :: ds.drop (j + 1) := by
      have := List.drop_eq_getElem_cons (l := ds) (i := j) (by omega)
      rw [this]
      congr 1
      have h3 := List.getElem?_eq_getElem (l := ds) (i := j) (by omega)
      rw [hd] at h3
      exact (Option.some.inj h3).symm
    rw [hdrop] at hks
    unfold keysRun at hks
    split at hks
    · rename_i kk S2 hcall
      split at hks
      · rename_i ks' S3 hrest
        cases hks
        refine wpAny_bind (wpAny_attempt (wpAny_mono (key_call Fk g bi fr C.I C.s (Rp.mono C.x.fr rd) rx hcall) (fun u t2 he => ?_) fun _ _ z => z.elim))
        obtain ⟨w, H2, J, rw', α2, F2, x2, s2, r2⟩ := he
        try dsimp only
        have gS := (J.pin (kS, seqObj "list" kA e) (by simp)).1
        have ga := (J.pin (a, seqObj "list" #[] e1) (by simp)).1
        have nS := (J.pin (kS, seqObj "list" kA e) (by simp)).2.1
        have na := (J.pin (a, seqObj "list" #[] e1) (by simp)).2.1
        have hz : kA.size ≤ us.length := by
          have h1 : kv.length = kA.toList.length := C.v.length
          have h2 : kd.length = kv.length := C.r.length
          have h3 : kA.toList.length = kA.size := Array.length_toList
          omega
        have s1 := Heap.SameBut.update t2.heap kS (Obj.mapSeq (·.push u))
        obtain ⟨c2, hc2⟩ : ∃ c2, (t2.heap.update kS (Obj.mapSeq (·.push u))).get? kS = some (seqObj "list" (kA.push u) c2) := ⟨_, get?_update_seq gS (·.push u)⟩
        refine wpAny_bind (listUpdate_at gS rfl ?_ (Nat.le_trans hz sz) (Nat.le_trans (Nat.le_of_eq (Array.size_push ..)) (Nat.succ_le_succ (Nat.le_trans hz sz))))
        have J0 : Inv X pins σ H2 t2 := J.pins_of fun p hp => J.pin p (by simp only [List.mem_append, List.mem_cons]; exact .inr (.inr (.inr hp)))
        have J1 : Inv X pins σ H2 { t2 with heap := t2.heap.update kS (Obj.mapSeq (·.push u)), toks := t2.toks } := moved2 J0 (x := kS) (y := kS) (fun b o hb _ e => (s1.2 b hb).trans e) oS oS nS nS
        refine wpAny_pure ⟨rfl, kd ++ [kk], α2, F2, S2, H2, kA.push u, c2, kv ++ [w], ⟨J1.pins_of fun p hp => ?_, C.x.trans x2, s2, rps_snoc r2 (Rps.mono x2.fr C.r), by rw [Array.toList_push]; exact C.v.append (.cons rw' .nil)⟩, by simp [hkl], ks', hrest, by rw [← hcat]; simp⟩
        rcases List.mem_cons.mp hp with e | hp
        · rw [e]; exact ⟨hc2, nS, oS.loc, oS.fs, fun v z => by cases (show Data.seq _ _ = Data.cell v from z)⟩
        · rcases List.mem_cons.mp hp with e | hp
          · rw [e]; exact ⟨(s1.2 a (Ne.symm ne)).trans ga, na, oa.loc, oa.fs, fun v z => by cases (show Data.seq _ _ = Data.cell v from z)⟩
          · exact J1.pin p (List.mem_append_right _ hp)
      · cases hks
    · cases hks
  case end_ =>
    rintro t' ⟨kd, αi, Fi, Si, Hi, kA, e, kv, C, hkl, ks, hks, hcat⟩
    rw [Nat.zero_add, hlen, ← hl2, List.drop_length] at hks
    cases hks
    rw [List.append_nil] at hcat
    subst hcat
    have gS := (C.I.pin (kS, seqObj "list" kA e) (by simp)).1
    have ga := (C.I.pin (a, seqObj "list" #[] e1) (by simp)).1
    have hz2 := ok _ _ hall
    try dsimp only
    refine wpAny_bind (listItems_at gS rfl ?_)
    have hsz : kA.size = us.length := by
      have h1 : kv.length = kA.toList.length := C.v.length
      have h2 : kd.length = kv.length := C.r.length
      have h3 : kA.toList.length = kA.size := Array.length_toList
      omega
    obtain ⟨al, so, rd, dep⟩ := keys_data hK C.I C.s C.r C.v hz2
    have hS : (PySem.W.hideAll t'.heap [kS]).get? kS = none := PySem.W.hideAll_none _ (by simp)
    refine PySem.W.keyH_end (κ := PySem.W.dataKind t'.heap (kd.map toPy)) (h₁ := PySem.W.hideAll t'.heap [kS]) (fun b o _ q => PySem.W.of_hideAll _ q) hS gS ga ne (PySem.W.SortsAt.data (s := t') rd al so fun d hd => by have := dep d hd; omega) hsz sz fun h' tk c kp at_ => ?_
    exact done kd _ αi Fi Hi kA e kv t' h' tk _ c hall C (fun b o h1 h2 q => kp b o h1 (PySem.W.hideAll_get _ q (by simpa using h2))) at_ ⟨t'.heap, kA.toList, al, rfl, rd⟩
end

section
variable {X : Cx} {W : Wd} {E : XK} {Es : SX} {k f : Nat} {fd : FuncData} {ps : List Str} {rc : Nat → List Vl → Sto → Res Vl} {cell : Bool}
/-- sorted(xs, key=f) -/
def rKSort (W : Wd) (rc : Nat → List Vl → Sto → Res Vl) (f : Nat) (cell : Bool) : List V → List V → Hp → VK → Prop := fun vs zs H Q => ∃ E α F S x v, vs = [v] ∧ zs = [V.ref (W.fa f)] ∧ Sr W α F S H ∧ VlR W α F S.length x v ∧ Post W E (VlX W) α F S H (keyedSort rc f cell x S) Q
theorem zips {F : Hp} {kd ds : List D} {vs : List V} {us : List Value} (l : kd.length = ds.length) (r : Rps W F ds vs) (v : Vals vs us) : ∃ bs : List (D × D × V), bs.map (·.1) = kd ∧ bs.map (fun b => (b.1, b.2.1)) = kd.zip ds ∧ (∀ b ∈ bs, Rp W F b.2.1 b.2.2) ∧ PySem.W.EachIs (fun u b => RelV b.2.2 u) us bs := by
  induction ds generalizing kd vs us with
  | nil =>
    cases (show vs = [] from r)
    cases v
    have : kd = [] := by simpa using l
    subst this
    exact ⟨[], rfl, rfl, nofun, .nil⟩
  | cons d ds ih =>
    obtain ⟨w, t, rfl, r1, r2⟩ := r
    cases kd with
    | nil => simp at l
    | cons q kd =>
      cases v with
      | cons v1 v2 =>
        obtain ⟨bs, h1, h2, h3, h4⟩ := ih (kd := kd) (by simpa using l) r2 v2
        refine ⟨(q, d, w) :: bs, by simp [h1], by simp [h2], fun b hb => ?_, .cons v1 h4⟩
        rcases List.mem_cons.mp hb with rfl | hb
        · exact r1
        · exact h3 b hb
theorem each_vals3 {bs : List (D × D × V)} : ∀ {us : List Value}, PySem.W.EachIs (fun v b => RelV b.2.2 v) us bs → Vals (bs.map (·.2.2)) us := by
  induction bs with
  | nil => intro us r; cases r; exact .nil
  | cons b bs ih => intro us r; cases r with | cons h t => exact .cons h (ih t)
theorem rps_of {F : Hp} {bs : List (D × D × V)} (h : ∀ b ∈ bs, Rp W F b.2.1 b.2.2) : Rps W F (bs.map (·.2.1)) (bs.map (·.2.2)) := by
  induction bs with
  | nil => rfl
  | cons b bs ih => exact ⟨_, _, rfl, h b (List.mem_cons_self ..), ih fun c hc => h c (List.mem_cons_of_mem _ hc)⟩
theorem keysRun_len : ∀ {ds : List D} {S S' : Sto} {kd : List D}, keysRun rc f ds S = .ok kd S' → kd.length = ds.length
  | [], _, _, _, e => by cases e; rfl
  | d :: ds, _, _, _, e => by
    unfold keysRun at e
    split at e
    · split at e
      · rename_i q
        cases e
        simp [keysRun_len q]
      · cases e
    · cases e
theorem cr_ksort (hK : W.K = X.K) (Fk : FnG X.prog X.w X.K X.mg X.base k (W.fa f) fd ps (spF W rc f)) (g : RoomG k X.A.in1.in1) (hu : X.A.units + 110 < cLine) (bi : Binds X.K fd ps []) : CallRK X (.builtin "sorted") [Str.ofString "key"] (rKSort W rc f cell) := by
  intro pins s σ H xs zs us ws Q I r rz h
  obtain ⟨E, α, F, S, x, v, rfl, rfl, sr, rx, p⟩ := h
  unfold keyedSort at p
  cases ex : listOf x S with
  | none => rw [ex] at p; exact p.elim
  | some ys =>
    rw [ex] at p
    dsimp only at p
    cases px : pures ys with
    | none => rw [px] at p; exact p.elim
    | some ds =>
      rw [px] at p
      dsimp only at p
      obtain ⟨l, vs, rfl, q1, r1⟩ := rx.list sr ex
      have rs := r1.pures px
      obtain ⟨its, rv, pl, hz⟩ := I.list (.of q1)
      rw [Vals.ref1 r, Vals.ref1 rz]
      have szI : its.length ≤ sizeLine := by rw [← rv.length]; exact hz
      have oa : Ours X pins (s.heap.objs.size + 1) := Ours.of I (Nat.le_succ _)
      have na : H (s.heap.objs.size + 1) = none := I.hok.fresh (Nat.le_succ _)
      refine PySem.W.sorted_of_sort (vs := its) pl.isList szI (ksk_s1 _ _) (fun _ => ksk_l1 _ _) fun E' => ?_
      show wpAny _ _ (Builtin.«list.sort» ⟨[.ref (s.heap.objs.size + 1)], [(Str.ofString "key", .ref (W.fa f))]⟩) _ _ _
      rw [ksk_t1]
      have ho := PySem.W.copyHeap_at s.heap its
      obtain ⟨e1, ho1⟩ : ∃ e1, ((PySem.W.copyHeap s.heap its).update (s.heap.objs.size + 1) (Obj.mapSeq fun _ => (#[] : Array Value))).get? (s.heap.objs.size + 1) = some (seqObj "list" #[] e1) := ⟨_, get?_update_seq ho fun _ => #[]⟩
      have gap : s.heap.objs.size + 1 < (PySem.W.copyHeap s.heap its).objs.size := Heap.lt_size ho
      have szS : (((PySem.W.copyHeap s.heap its).update (s.heap.objs.size + 1) (Obj.mapSeq fun _ => (#[] : Array Value))).push (seqObj "tuple" its.toArray 0)).objs.size = (PySem.W.copyHeap s.heap its).objs.size + 1 := by rw [size_push', Heap.size_update]
      have oS : Ours X pins (((PySem.W.copyHeap s.heap its).update (s.heap.objs.size + 1) (Obj.mapSeq fun _ => (#[] : Array Value))).push (seqObj "tuple" its.toArray 0)).objs.size := Ours.of I (by rw [szS]; omega)
      have nS : H (((PySem.W.copyHeap s.heap its).update (s.heap.objs.size + 1) (Obj.mapSeq fun _ => (#[] : Array Value))).push (seqObj "tuple" its.toArray 0)).objs.size = none := I.hok.fresh (by rw [szS]; omega)
      have neS : (((PySem.W.copyHeap s.heap its).update (s.heap.objs.size + 1) (Obj.mapSeq fun _ => (#[] : Array Value))).push (seqObj "tuple" its.toArray 0)).objs.size ≠ s.heap.objs.size + 1 := by rw [szS]; omega
      have keep0 : ∀ b o, s.heap.get? b = some o → (PySem.W.sortingHeap (PySem.W.copyHeap s.heap its) (s.heap.objs.size + 1) its).get? b = some o := fun b o e => PySem.W.sortingHeap_old (Nat.ne_of_lt (Nat.lt_succ_of_lt (Heap.lt_size e))) (PySem.W.copyHeap_old e)
      have J : Inv X pins σ H { s with heap := PySem.W.sortingHeap (PySem.W.copyHeap s.heap its) (s.heap.objs.size + 1) its } := I.kept (t' := s.toks) keep0
      unfold ksk_tree
      refine wpAny_bind (listItems_at ho rfl (wpAny_bind (listUpdate_at ho rfl (wpAny_bind (seqEpoch_at ho1 rfl (wpAny_bind (wpAny_newTuple (wpAny_bind (wpAny_newList (wpAny_holding ?_) (Nat.zero_le _))) (by show its.length ≤ _; exact szI))))) (by rw [List.size_toArray]; exact szI) (Nat.zero_le _))))
      refine key_rest (Q := Q) (E := E) (t := { s with heap := PySem.W.sortingHeap (PySem.W.copyHeap s.heap its) (s.heap.objs.size + 1) its }) hK Fk g bi rfl (by show X.A.units + 1 + 1 + 100 < cLine; omega) oa oS neS (J.pins_of fun p hp => ?_) sr rs rv szI p ?_ ?_
      · rcases List.mem_cons.mp hp with e | hp
        · rw [e]; exact ⟨Heap.get?_push_size _ rfl, nS, oS.loc, oS.fs, fun v z => by cases (show Data.seq _ _ = Data.cell v from z)⟩
        · rcases List.mem_cons.mp hp with e | hp
          · rw [e]; exact ⟨Heap.get?_push_of_some _ (Heap.get?_push_of_some _ ho1), na, oa.loc, oa.fs, fun v z => by cases (show Data.seq _ _ = Data.cell v from z)⟩
          · exact J.pin p (List.mem_append_right _ hp)
      · intro kd Sn αn Fn Hn kA e kv tn h' tk out c hall C keep at_ ko
        refine ⟨rfl, ?_⟩
        have nS' := (C.I.pin _ (List.mem_append_right X.pn List.mem_cons_self)).2.1
        have na' := (C.I.pin _ (List.mem_append_right X.pn (List.mem_cons_of_mem _ List.mem_cons_self))).2.1
        have J0 : Inv X pins σ Hn tn := C.I.pins_of fun p hp => C.I.pin p (by simp only [List.mem_append, List.mem_cons]; exact .inr (.inr (.inr hp)))
        have J1 : Inv X pins σ Hn { tn with heap := h', toks := tk } := moved2 J0 keep oa oS na' nS'
        rw [hall] at p
        have p1 : Post W E (VlX W) α F S H (if sortOk kd then newList cell ((sortBy kd ds).map .d) Sn else .bad) Q := p
        split at p1
        · have p2 := Post.rebase C.x p1
          obtain ⟨bs, b1, b2, b3, b4⟩ := zips (keysRun_len hall) (Rps.mono C.x.fr rs) rv
          rw [show kd.map toPy = bs.map fun b => toPy b.1 by rw [← b1, List.map_map]; rfl] at ko
          have each := PySem.W.keyedOut_each (fun b : D × D × V => toPy b.1) ko b4
          rw [PySem.W.dataLe_eq] at each
          have e2 : sortBy kd ds = (bs.mergeSort fun a b => !PySem.W.dataLt (toPy b.1) (toPy a.1)).map (·.2.1) := by
            unfold sortBy
            rw [← b2]
            have := List.map_mergeSort (f := fun q : D × D × V => (q.1, q.2.1)) (r := fun a b => !PySem.W.dataLt (toPy b.1) (toPy a.1)) (s := fun a b : D × D => leDt a.1 b.1) (l := bs) fun _ _ _ _ => rfl
            rw [← this, List.map_map]
            rfl
          have srt : Rps W Fn ((bs.mergeSort fun a b => !PySem.W.dataLt (toPy b.1) (toPy a.1)).map (·.2.1)) ((bs.mergeSort fun a b => !PySem.W.dataLt (toPy b.1) (toPy a.1)).map (·.2.2)) := rps_of fun b hb => b3 b (List.mem_mergeSort.mp hb)
          rw [e2] at p2
          obtain ⟨z1, z2⟩ := fin_new p2 C.s (VlRs.of_pure srt)
          have val := each_vals3 each
          have new : ObjOk X.prog X.w (upd Hn (s.heap.objs.size + 1) (.lst ((bs.mergeSort fun a b => !PySem.W.dataLt (toPy b.1) (toPy a.1)).map (·.2.2)))) h' (s.heap.objs.size + 1) (.lst ((bs.mergeSort fun a b => !PySem.W.dataLt (toPy b.1) (toPy a.1)).map (·.2.2))) := ⟨z1, out, c, val, at_⟩
          exact ⟨V.ref (s.heap.objs.size + 1), _, track J1 oa na' new, rfl, z2 _ na'⟩
        · exact p1.elim
      · intro kd Sn hall
        rw [hall] at p
        have p1 : Post W E (VlX W) α F S H (if sortOk kd then newList cell ((sortBy kd ds).map .d) Sn else .bad) Q := p
        split at p1
        · assumption
        · exact p1.elim
end

section
variable {X : Cx} {W : Wd} {Es : SX} {k f : Nat} {fd : FuncData} {ps : List Str} {rc : Nat → List Vl → Sto → Res Vl} {cell : Bool} {a : Expr} {pos p1 gp kp : Pos} {g : Str} {fa : Env → Sto → Res Vl}
theorem de_ksort (hK : W.K = X.K) (Fk : FnG X.prog X.w X.K X.mg X.base k (W.fa f) fd ps (spF W rc f)) (r : RoomB k X.A) (bi : Binds X.K fd ps []) (hg : Gl X "sorted") (hm : X.mg "sorted" = none) (hgg : Gl X g) (hmg : X.mg g = some (.ref (W.fa f))) (hdg : (g == ("__debug__" : Str)) = false)
    (hs : notStar a = true) (ha : PE X a (tD W Es fa)) : PE X (.Call (.Name "sorted" p1) [a] [⟨some "key", .Name g gp, kp⟩] pos) (tD W Es fun ρ S => (consF fa nilF ρ S).bind fun vs S => keyed rc .sorted f cell vs S) := by
  refine peI (pe_callBK (cr_ksort (cell := cell) hK Fk r.two (by have := r.sl; omega) bi) hg hm boot_sorted' (pa_cons ha pa_nil (star_cons hs)) (pk_cons (pe_glob (v := .ref (W.fa f)) hgg hmg rfl hdg) pk_nil) (by decide) (by decide) (by rw [star_cons hs]; rfl)
    (star_none (by rw [List.all_cons, hs]; rfl)) rfl rfl rfl) fun σ H Q ⟨α, F, ρ, S, s, er, p⟩ => ?_
  have p : Post W (Es σ) (VlX W) α F S H ((fa ρ S).bind fun v S => keyedSort rc f cell v S) Q := by
    have e : (consF fa nilF ρ S).bind (fun vs S => keyed rc .sorted f cell vs S) = (fa ρ S).bind fun v S => keyedSort rc f cell v S := by
      unfold consF
      cases fa ρ S <;> rfl
    dsimp only at p
    rw [e] at p
    exact p
  exact ⟨α, F, ρ, S, s, er, (Post.bind (Rel := VlX W) p).imp fun v H1 ⟨α1, F1, x, S1, x1, s1, r1, p1⟩ => ⟨_, α1, F1, S1, x, v, rfl, rfl, s1, r1, p1⟩⟩
end
end Z
end

section
set_option maxRecDepth 100000
set_option maxHeartbeats 2000000
/-! G5: min(.., key=f), f a def of the text. -/
namespace Z
open PySem PySem.Spec PyProof.Rows L2
/-- a run of min's loop, step by step: T i, what stands when i items are seen (vb the best, kb its key); U, when the next one's key is made -/
structure KeyLoop (P : Program) (w : World) (A : Around) (q : Value) (S : Addr) (wr : List Addr) (G : Array GenState → Array GenState → Prop) (n : Nat) (It : Nat → Value → Prop) (St : Nat → Shared → Prop) (T0 : Shared → Prop) (T : Nat → Value → Value → Shared → Prop)
    (U : Nat → Value → Value → Value → Value → Shared → Prop) : Prop where
  keep0 : ∀ {t t'}, T0 t → Moved (S :: wr) G t t' → T0 t'
  keep : ∀ {i vb kb t t'}, T i vb kb t → Moved (S :: wr) G t t' → T i vb kb t'
  turn0 : ∀ {v : Value} {t : Shared} {xs : Array Value} {c : Nat} {Q : Value → Shared → Prop} {E : Value → Shared → Prop}, It 0 v → T0 t → St 1 t → t.heap.get? S = some { cls := .type "list", dict := none, data := .seq xs c, slots := #[] } → (∀ k t', T 1 v k t' → St 1 t' → t'.heap.get? S = some { cls := .type "list", dict := none, data := .seq xs c, slots := #[] } → Q k t') → wpAny (model P w) A (call q [v]) Q E t
  turn : ∀ {i : Nat} {v vb kb : Value} {t : Shared} {xs : Array Value} {c : Nat} {Q : Value → Shared → Prop} {E : Value → Shared → Prop}, 0 < i → i < n → It i v → T i vb kb t → St (i + 1) t → t.heap.get? S = some { cls := .type "list", dict := none, data := .seq xs c, slots := #[] } →
    (∀ k t', U i vb kb v k t' → St (i + 1) t' → t'.heap.get? S = some { cls := .type "list", dict := none, data := .seq xs c, slots := #[] } → Q k t') → wpAny (model P w) A (call q [v]) Q E t
  cmp : ∀ {i : Nat} {v k vb kb : Value} {t : Shared} {Q : Value → Shared → Prop} {E : Value → Shared → Prop}, 0 < i → i < n → U i vb kb v k t → (∀ r : Bool, (r = true → T (i + 1) v k t) → (r = false → T (i + 1) vb kb t) → Q (.bool r) t) → wpAny (model P w) A (richCompare .Lt k kb) Q E t
section
variable {P : Program} {w : World} {A : Around} {q S I : Addr} {fp wr : List Addr} {G : Array GenState → Array GenState → Prop} {n : Nat} {It : Nat → Value → Prop} {St : Nat → Shared → Prop} {T0 : Shared → Prop} {T : Nat → Value → Value → Shared → Prop}
  {U : Nat → Value → Value → Value → Value → Shared → Prop} {R : Result → Shared → Prop} {kw : List (Str × Value)}
theorem best_put (Wk : WalksS P w A.in1 I fp wr G n It St) (out : S ∉ fp) {j : Nat} {t : Shared} {o : Obj} {xs ys : Array Value} {c : Nat} (st : St j t) (hS : t.heap.get? S = some { cls := .type "list", dict := none, data := .seq xs c, slots := #[] }) :
    Moved (S :: wr) G t { t with heap := t.heap.update S (Obj.mapSeq fun _ => ys), toks := t.toks } ∧ St j { t with heap := t.heap.update S (Obj.mapSeq fun _ => ys), toks := t.toks } ∧
      ∃ c', (t.heap.update S (Obj.mapSeq fun _ => ys)).get? S = some { cls := .type "list", dict := none, data := .seq ys c', slots := #[] } :=
  ⟨(Moved.refl Wk.grefl).then_heap (tk := t.toks) (Nat.le_refl _) fun b o hb e => (Heap.get?_update_other _ _ fun z => hb (by rw [z]; exact List.mem_cons_self)).trans e,
    Wk.frame _ t _ t.toks st (Nat.le_refl _) fun b hb o e => (Heap.get?_update_other _ _ fun z : S = b => out (by rw [z]; exact hb)).trans e, _, Heap.get?_update_self _ hS rfl⟩
theorem min_loop (Wk : WalksS P w A.in1 I fp wr G n It St) (out : S ∉ fp) (L : KeyLoop P w A.in1 (.ref q) S wr G n It St T0 T U) :
    ∀ (k i : Nat) (t : Shared) (vb kb : Value) (c : Nat), n - i = k → 0 < i → i ≤ n → T i vb kb t → St i t → t.heap.get? S = some { cls := .type "list", dict := none, data := .seq #[vb, kb] c, slots := #[] } →
      (∀ v kv t', T n v kv t' → R (.ok (.ret v)) t') → codeAny (model P w) A (.builtin "min.loop" ⟨[.ref I, .ref q, .ref S], kw⟩) R t := by
  have nw : S ∉ wr := fun z => out (Wk.sub _ z)
  have up : ∀ b ∈ wr, b ∈ S :: wr := fun b z => List.mem_cons_of_mem _ z
  have nm : (toString "min" ++ toString ".loop" : String) = "min.loop" := by decide
  intro k
  induction k with
  | zero =>
    intro i t vb kb c hk h0 hi hT st hS fin
    have e : i = n := by omega
    subst e
    refine codeAny_builtin F.entry_min_loop ?_; rw [Around.under_plainId F.plain_min_loop _]
    show wpAny _ A.in1 (seqItems? (.ref S) >>= _) _ _ t
    refine wpAny_bind (wpAny_seqItems hS rfl (show wpAny _ A.in1 (tryCatch (pyNext (.ref I)) _ >>= _) _ _ t from wpAny_bind (wpAny_tryCatch (Wk.done t _ _ st fun t' mv => ?_))))
    have hS' := mv.heap S _ nw hS
    show wpAny _ A.in1 (updateSeq S (fun _ => #[]) >>= _) _ _ _
    refine wpAny_bind (wpAny_updateSeq hS' rfl (wpAny_bind (wpAny_letGo (wpAny_pure (fin vb kb _ (L.keep hT ?_))))))
    exact (mv.mono up).then_heap (tk := t'.toks) (Nat.le_refl _) fun b o hb e => (Heap.get?_update_other _ _ fun z => hb (by rw [z]; exact List.mem_cons_self)).trans e
  | succ k ih =>
    intro i t vb kb c hk h0 hi hT st hS fin
    have lt : i < n := by omega
    refine codeAny_builtin F.entry_min_loop ?_; rw [Around.under_plainId F.plain_min_loop _]
    show wpAny _ A.in1 (seqItems? (.ref S) >>= _) _ _ t
    refine wpAny_bind (wpAny_seqItems hS rfl (show wpAny _ A.in1 (tryCatch (pyNext (.ref I)) _ >>= _) _ _ t from wpAny_bind (wpAny_tryCatch (Wk.item i t _ _ lt st fun v t' it st' mv => ?_))))
    have hS' := mv.heap S _ nw hS
    show wpAny _ A.in1 (tryCatch (holding [v] (call (.ref q) [v])) _ >>= _) _ _ _
    refine wpAny_bind (wpAny_tryCatch (wpAny_holding (L.turn h0 lt it (L.keep hT (mv.mono up)) st' hS' fun kx t2 hU st2 hS2 => ?_)))
    show wpAny _ A.in1 (tryCatch (holding [v, kx] (richCompare .Lt kx kb >>= _)) _ >>= _) _ _ _
    refine wpAny_bind (wpAny_tryCatch (wpAny_holding (wpAny_bind (L.cmp h0 lt hU fun r yes no => ?_))))
    refine wpAny_bind (wpAny_holding (wpAny_truthy_bool (wpAny_bind (wpAny_letGo (wpAny_pure ?_)))))
    cases r with
    | true =>
      obtain ⟨m2, s2, c2, g2⟩ := best_put (o := default) (ys := #[v, kx]) Wk out st2 hS2
      simp only [if_true]
      refine wpAny_bind ?_; refine wpAny_updateSeq hS2 rfl (wpAny_bind (wpAny_letGo ?_))
      rw [nm]
      exact wpAny_pure ⟨plainId_quiet F.plain_min_loop _, ih (i + 1) _ v kx _ (by omega) (Nat.succ_pos _) lt (L.keep (yes rfl) m2) s2 g2 fin⟩
    | false =>
      simp only [Bool.false_eq_true, if_false]; refine wpAny_bind (wpAny_letGo ?_)
      rw [nm]
      exact wpAny_pure ⟨plainId_quiet F.plain_min_loop _, ih (i + 1) _ vb kb c (by omega) (Nat.succ_pos _) lt (no rfl) st2 hS2 fin⟩
theorem min_first (Wk : WalksS P w A.in1 I fp wr G n It St) (out : S ∉ fp) (L : KeyLoop P w A.in1 (.ref q) S wr G n It St T0 T U) (pos : 0 < n) {t : Shared} {c : Nat} (hT : T0 t) (st : St 0 t)
    (hS : t.heap.get? S = some { cls := .type "list", dict := none, data := .seq #[] c, slots := #[] }) (fin : ∀ v kv t', T n v kv t' → R (.ok (.ret v)) t') : codeAny (model P w) A (.builtin "min.loop" ⟨[.ref I, .ref q, .ref S], kw⟩) R t := by
  have nw : S ∉ wr := fun z => out (Wk.sub _ z)
  have nm : (toString "min" ++ toString ".loop" : String) = "min.loop" := by decide
  refine codeAny_builtin F.entry_min_loop ?_; rw [Around.under_plainId F.plain_min_loop _]
  show wpAny _ A.in1 (seqItems? (.ref S) >>= _) _ _ t
  refine wpAny_bind (wpAny_seqItems hS rfl (show wpAny _ A.in1 (tryCatch (pyNext (.ref I)) _ >>= _) _ _ t from wpAny_bind (wpAny_tryCatch (Wk.item 0 t _ _ pos st fun v t' it st' mv => ?_))))
  have hS' := mv.heap S _ nw hS
  show wpAny _ A.in1 (tryCatch (holding [v] (call (.ref q) [v])) _ >>= _) _ _ _
  refine wpAny_bind (wpAny_tryCatch (wpAny_holding (L.turn0 it (L.keep0 hT (mv.mono fun b z => List.mem_cons_of_mem _ z)) st' hS' fun kx t2 hT2 st2 hS2 => ?_)))
  show wpAny _ A.in1 (updateSeq S (fun _ => #[v, kx]) >>= _) _ _ _
  obtain ⟨m2, s2, c2, g2⟩ := best_put (o := default) (ys := #[v, kx]) Wk out st2 hS2
  refine wpAny_bind ?_; refine wpAny_updateSeq hS2 rfl ?_
  rw [nm]
  exact wpAny_pure ⟨plainId_quiet F.plain_min_loop _, min_loop Wk out L _ 1 _ v kx _ rfl (Nat.succ_pos _) pos (L.keep hT2 m2) s2 g2 fin⟩
end

/-! ### the loop over what is tracked -/
section
variable {X : Cx} {W : Wd} {pins : List (Addr × Obj)} {σ : L2.St} {H : Hp} {s : Shared}
/-- untracked objects of ours have changed -/
theorem movedN (I : Inv X pins σ H s) {h' : Heap} {t' : Nat} (ms : List Addr) (k : ∀ b o, b ∉ ms → s.heap.get? b = some o → h'.get? b = some o) (ours : ∀ z ∈ ms, Ours X pins z) (no : ∀ z ∈ ms, H z = none) : Inv X pins σ H { s with heap := h', toks := t' } := by
  have out : ∀ b u, H b = some u → b ∉ ms := fun b u e z => by rw [no b z] at e; cases e
  refine I.step (g' := s.gens) (d' := s.drawn) (ch := ms) (fun b hb => ⟨.inr (ours b hb).sz, (ours b hb).loc, (ours b hb).cl, (ours b hb).pn⟩) (fun b o _ _ hc e _ => k b o hc e) (fun b o _ _ hc e _ => ⟨o.slots, k b o hc e⟩) (fun _ _ _ _ n => n) (fun b o hc e => ⟨o, k b o hc e⟩)
    (fun _ _ e => e) (fun _ _ _ e => e) (fun b ps e => ⟨#[], by rw [e]; simp⟩) (fun m hm => ?_) (fun b u e => ?_) I.bare
  · obtain ⟨o, es, ep, ho, r⟩ := hm
    exact ⟨o, es, ep, k _ o (fun z => (ours _ z).loc rfl) ho, r⟩
  · refine (I.hok b u e).stay (fun c v hc q => k c v ?_ q) (fun _ q => q) fun _ _ q => q
    rcases hc with rfl | z
    · exact out _ _ e
    · exact out _ _ z
theorem movedS (I : Inv X pins σ H s) {s' : Shared} {ms : List Addr} (m : Moved ms (fun a b => b = a) s s') (ours : ∀ z ∈ ms, Ours X pins z) (no : ∀ z ∈ ms, H z = none) : Inv X pins σ H s' := by
  have J := movedN I (h' := s'.heap) (t' := s'.toks) ms m.heap ours no
  have e1 := m.gens
  have e2 := m.drawn
  have e3 := m.os
  obtain ⟨h, g, d, tk, o⟩ := s'
  dsimp only at e1 e2 e3 J
  subst e1 e2 e3
  exact J
variable {α : Nat → Addr} {F : Hp} {S0 : Sto} {k f : Nat} {fd : FuncData} {ps : List Str} {rc : Nat → List Vl → Sto → Res Vl} {ds : List D} {zs wr : List Addr} {S : Addr} {n : Nat} {It : Nat → Value → Prop} {St : Nat → Shared → Prop} {kall : List D} {Sn : Sto}
/-- what is walked, as the tracked heap knows it -/
structure Walked (X : Cx) (W : Wd) (pins : List (Addr × Obj)) (σ : L2.St) (F : Hp) (ds : List D) (zs wr : List Addr) (It : Nat → Value → Prop) (St : Nat → Shared → Prop) : Prop where
  st : ∀ {i t}, St i t → ∃ px : List (Addr × Obj), (∀ p ∈ px, p.1 ∈ zs ∧ t.heap.get? p.1 = some p.2 ∧ ∀ v, p.2.data ≠ .cell v) ∧ (∀ z ∈ zs, ∃ o, (z, o) ∈ px) ∧ ∀ {Hj t'}, Inv X pins σ Hj t' → Sub F Hj → (∀ p ∈ px, t'.heap.get? p.1 = some p.2) → St i t'
  it : ∀ {i v}, It i v → ∃ d w, ds[i]? = some d ∧ Rp W F d w ∧ RelV w v
  wr : ∀ z ∈ wr, z ∈ zs
  ours : ∀ z ∈ zs, Ours X pins z
/-- the state within the walk -/
structure KSt (X : Cx) (W : Wd) (pins : List (Addr × Obj)) (σ : L2.St) (zs : List Addr) (α : Nat → Addr) (F : Hp) (S0 : Sto) (H : Hp) (αi : Nat → Addr) (Fi : Hp) (Si : Sto) (Hi : Hp) (t : Shared) : Prop where
  I : Inv X pins σ Hi t
  x : Ext α F S0 H αi Fi Si Hi
  s : Sr W αi Fi Si Hi
  no : ∀ z ∈ zs, Hi z = none
def MT0 (X : Cx) (W : Wd) (pins : List (Addr × Obj)) (σ : L2.St) (zs : List Addr) (α : Nat → Addr) (F : Hp) (S0 : Sto) (H : Hp) (t : Shared) : Prop := ∃ αi Fi Hi, KSt X W pins σ zs α F S0 H αi Fi S0 Hi t
def MT (X : Cx) (W : Wd) (pins : List (Addr × Obj)) (σ : L2.St) (zs : List Addr) (α : Nat → Addr) (F : Hp) (S0 : Sto) (H : Hp) (rc : Nat → List Vl → Sto → Res Vl) (f : Nat) (ds kall : List D) (Sn : Sto) (i : Nat) (vb kb : Value) (t : Shared) : Prop :=
  ∃ kd ks αi Fi Si Hi kq dq wk wv, KSt X W pins σ zs α F S0 H αi Fi Si Hi t ∧ kd.length = i ∧ keysRun rc f (ds.drop i) Si = .ok ks Sn ∧ kd ++ ks = kall ∧ bestOf (kd.zip ds) = some (kq, dq) ∧ kq ∈ kall ∧ Rp W Fi kq wk ∧ RelV wk kb ∧ Rp W Fi dq wv ∧ RelV wv vb
def MU (X : Cx) (W : Wd) (pins : List (Addr × Obj)) (σ : L2.St) (zs : List Addr) (α : Nat → Addr) (F : Hp) (S0 : Sto) (H : Hp) (rc : Nat → List Vl → Sto → Res Vl) (f : Nat) (ds kall : List D) (Sn : Sto) (i : Nat) (vb kb v k : Value) (t : Shared) : Prop :=
  ∃ kd kn ks αi Fi Si Hi kq dq wk wv dn wn wkn, KSt X W pins σ zs α F S0 H αi Fi Si Hi t ∧ kd.length = i ∧ keysRun rc f (ds.drop (i + 1)) Si = .ok ks Sn ∧ kd ++ kn :: ks = kall ∧ bestOf (kd.zip ds) = some (kq, dq) ∧ kq ∈ kall ∧ Rp W Fi kq wk ∧ RelV wk kb ∧ Rp W Fi dq wv ∧ RelV wv vb ∧
    ds[i]? = some dn ∧ Rp W Fi dn wn ∧ RelV wn v ∧ Rp W Fi kn wkn ∧ RelV wkn k
theorem zip_snoc {kn dn : D} : ∀ {kd ds : List D}, ds[kd.length]? = some dn → (kd ++ [kn]).zip ds = kd.zip ds ++ [(kn, dn)]
  | [], d :: ds, h => by simp at h; simp [h]
  | [], [], h => by simp at h
  | q :: kd, [], h => by simp at h
  | q :: kd, d :: ds, h => by simp only [List.cons_append, List.zip_cons_cons]; rw [zip_snoc (kd := kd) (ds := ds) (by simpa using h)]
theorem best_snoc {l : List (D × D)} {b p : D × D} (h : bestOf l = some b) : bestOf (l ++ [p]) = some (if ltDt p.1 b.1 then p else b) := by
  cases l with
  | nil => cases h
  | cons q l =>
    simp only [bestOf, Option.some.injEq] at h
    simp only [List.cons_append, bestOf, List.foldl_append, List.foldl_cons, List.foldl_nil, h]
theorem drop_at {i : Nat} {d : D} (h : ds[i]? = some d) : ds.drop i = d :: ds.drop (i + 1) := by
  obtain ⟨lt, e⟩ := List.getElem?_eq_some_iff.mp h
  rw [List.drop_eq_getElem_cons lt, e]
/-- the next key -/
theorem key_step {A : Around} {i : Nat} {t : Shared} {v : Value} {xs : Array Value} {c : Nat} {αi : Nat → Addr} {Fi : Hp} {Si : Sto} {Hi : Hp} {ks : List D} {Q : Value → Shared → Prop} {E : Value → Shared → Prop} (Fk : FnG X.prog X.w X.K X.mg X.base k (W.fa f) fd ps (spF W rc f)) (g : RoomG k A) (bi : Binds X.K fd ps []) (fr : A.frames = X.A.frames)
    (Wk : Walked X W pins σ F ds zs wr It St) (oS : Ours X pins S) (C : KSt X W pins σ (S :: zs) α F S0 H αi Fi Si Hi t) (hit : It i v) (st : St (i + 1) t) (hS : t.heap.get? S = some { cls := .type "list", dict := none, data := .seq xs c, slots := #[] }) (hk : keysRun rc f (ds.drop i) Si = .ok ks Sn)
    (fin : ∀ kx t' αj Fj Sj Hj kn ks' dn wn wkn, KSt X W pins σ (S :: zs) α F S0 H αj Fj Sj Hj t' → Sub Fi Fj → ks = kn :: ks' → keysRun rc f (ds.drop (i + 1)) Sj = .ok ks' Sn → ds[i]? = some dn → Rp W Fj dn wn → RelV wn v → Rp W Fj kn wkn → RelV wkn kx → St (i + 1) t' →
      t'.heap.get? S = some { cls := .type "list", dict := none, data := .seq xs c, slots := #[] } → Q kx t') : wpAny (model X.prog X.w) A (call (.ref (W.fa f)) [v]) Q E t := by
  obtain ⟨dn, wn, hd, rd, rv⟩ := Wk.it hit
  rw [drop_at hd] at hk
  unfold keysRun at hk
  split at hk
  · rename_i kn Sj hcall
    split at hk
    · rename_i ks' S3 hrest
      cases hk
      obtain ⟨px, p1, p2, p3⟩ := Wk.st st
      have J : Inv X (((S, { cls := .type "list", dict := none, data := .seq xs c, slots := #[] }) :: px) ++ pins) σ Hi t := C.I.pins_of fun p hp => by
        rcases List.mem_append.mp hp with hp | hp
        · rcases List.mem_cons.mp hp with e | hp
          · rw [e]; exact ⟨hS, C.no S (by simp), oS.loc, oS.fs, fun v z => by cases (show Data.seq _ _ = Data.cell v from z)⟩
          · obtain ⟨q1, q2, q3⟩ := p1 p hp
            have o := Wk.ours p.1 q1
            exact ⟨q2, C.no p.1 (List.mem_cons_of_mem _ q1), o.loc, o.fs, q3⟩
        · exact C.I.pin p (List.mem_append_right _ hp)
      refine wpAny_mono (key_call Fk g bi fr J C.s (Rp.mono C.x.fr rd) rv hcall) (fun u t2 he => ?_) fun _ _ z => z.elim
      obtain ⟨w, H2, J2, rw', α2, F2, x2, s2, r2⟩ := he
      have J3 : Inv X pins σ H2 t2 := J2.pins_of fun p hp => J2.pin p (by simp only [List.mem_append]; exact .inr (.inr hp))
      have gS := J2.pin (S, { cls := .type "list", dict := none, data := .seq xs c, slots := #[] }) (by simp)
      have gp : ∀ p ∈ px, t2.heap.get? p.1 = some p.2 ∧ H2 p.1 = none := fun p hp => by
        have := J2.pin p (by simp only [List.mem_append, List.mem_cons]; exact .inr (.inl (.inr hp)))
        exact ⟨this.1, this.2.1⟩
      refine fin u t2 α2 F2 _ H2 kn _ dn wn w ⟨J3, C.x.trans x2, s2, fun z hz => ?_⟩ x2.fr rfl hrest hd (Rp.mono x2.fr (Rp.mono C.x.fr rd)) rv r2 rw' (p3 J3 (fun a o e => s2.sub _ _ (x2.fr _ _ (C.x.fr _ _ e))) fun p hp => (gp p hp).1) gS.1
      rcases List.mem_cons.mp hz with rfl | hz
      · exact gS.2.1
      · obtain ⟨o, ho⟩ := p2 z hz
        exact (gp _ ho).2
    · cases hk
  · cases hk
end

section
variable {X : Cx} {W : Wd} {pins : List (Addr × Obj)} {σ : L2.St} {H : Hp} {s : Shared} {α : Nat → Addr} {F : Hp} {S0 : Sto} {k f : Nat} {fd : FuncData} {ps : List Str} {rc : Nat → List Vl → Sto → Res Vl} {ds : List D} {zs wr : List Addr} {S : Addr} {n : Nat} {It : Nat → Value → Prop} {St : Nat → Shared → Prop} {kall : List D} {Sn : Sto}
theorem sort_ok {kd : List D} (ok : sortOk kd = true) : ∀ a ∈ kd, isData 64 a = true ∧ toPy a ≠ .none ∧ ∀ b ∈ kd, alikeD a b = true := fun a ha => by
  unfold sortOk at ok
  rw [Bool.and_eq_true, List.all_eq_true] at ok
  obtain ⟨o1, o2⟩ := ok
  have h1 := o1 a ha
  rw [Bool.and_eq_true, List.all_eq_true] at h1
  refine ⟨h1.1, ?_, h1.2⟩
  rw [Bool.or_eq_true, List.all_eq_true, List.all_eq_true] at o2
  rcases o2 with h | h
  · have := h a ha
    cases a with
    | tup ds => cases ds with
      | nil => cases this
      | cons y ys => exact fun z => nomatch z
    | _ => cases this
  · have h3 := h a ha
    have h2 := h1.1
    cases a <;> first | (cases h3; done) | (cases h2; done) | (exact fun z => nomatch z)
theorem kst_moved {αi : Nat → Addr} {Fi : Hp} {Si : Sto} {Hi : Hp} {t t' : Shared} (Wk : Walked X W pins σ F ds zs wr It St) (oS : Ours X pins S) (C : KSt X W pins σ (S :: zs) α F S0 H αi Fi Si Hi t) (m : Moved (S :: wr) (fun a b => b = a) t t') : KSt X W pins σ (S :: zs) α F S0 H αi Fi Si Hi t' := by
  have sub : ∀ z ∈ S :: wr, z ∈ S :: zs := fun z hz => by
    rcases List.mem_cons.mp hz with rfl | hz
    · simp
    · exact List.mem_cons_of_mem _ (Wk.wr z hz)
  refine ⟨movedS C.I m (fun z hz => ?_) fun z hz => C.no z (sub z hz), C.x, C.s, C.no⟩
  rcases List.mem_cons.mp hz with rfl | hz
  · exact oS
  · exact Wk.ours z (Wk.wr z hz)
theorem key_loop {A : Around} (hK : W.K = X.K) (Fk : FnG X.prog X.w X.K X.mg X.base k (W.fa f) fd ps (spF W rc f)) (g : RoomG k A) (bi : Binds X.K fd ps []) (fr : A.frames = X.A.frames) (hu : A.units + 100 < cLine) (Wk : Walked X W pins σ F ds zs wr It St) (oS : Ours X pins S)
    (hall : keysRun rc f ds S0 = .ok kall Sn) (ok : sortOk kall = true) :
    KeyLoop X.prog X.w A (.ref (W.fa f)) S wr (fun a b => b = a) n It St (MT0 X W pins σ (S :: zs) α F S0 H) (MT X W pins σ (S :: zs) α F S0 H rc f ds kall Sn) (MU X W pins σ (S :: zs) α F S0 H rc f ds kall Sn) where
  keep0 := fun {t t'} ⟨αi, Fi, Hi, C⟩ m => ⟨αi, Fi, Hi, kst_moved Wk oS C m⟩
  keep := fun {i vb kb t t'} ⟨kd, ks, αi, Fi, Si, Hi, kq, dq, wk, wv, C, r⟩ m => ⟨kd, ks, αi, Fi, Si, Hi, kq, dq, wk, wv, kst_moved Wk oS C m, r⟩
  turn0 := fun {v t xs c Q E} hit ⟨αi, Fi, Hi, C⟩ st hS fin => by
    refine key_step (i := 0) Fk g bi fr Wk oS C hit st hS (by rw [List.drop_zero]; exact hall) fun kx t' αj Fj Sj Hj kn ks' dn wn wkn C' sub e hr hd rd rv rk rkv st' hS' => fin kx t' ?_ st' hS'
    subst e
    refine ⟨[kn], ks', αj, Fj, Sj, Hj, kn, dn, wkn, wn, C', rfl, hr, rfl, ?_, by simp, rk, rkv, rd, rv⟩
    cases ds with
    | nil => simp at hd
    | cons d ds => simp at hd; subst hd; simp [bestOf]
  turn := fun {i v vb kb t xs c Q E} h0 hi hit ⟨kd, ks, αi, Fi, Si, Hi, kq, dq, wk, wv, C, hl, hk, hcat, hb, hm, r1, v1, r2, v2⟩ st hS fin =>
    key_step Fk g bi fr Wk oS C hit st hS hk fun kx t' αj Fj Sj Hj kn ks' dn wn wkn C' sub e hr hd rd rv rk rkv st' hS' => fin kx t' ⟨kd, kn, ks', αj, Fj, Sj, Hj, kq, dq, wk, wv, dn, wn, wkn, C', hl, hr, by rw [← e]; exact hcat, hb, hm, Rp.mono sub r1, v1, Rp.mono sub r2, v2, hd, rd, rv, rk, rkv⟩ st' hS'
  cmp := fun {i v kx vb kb t Q E} h0 hi ⟨kd, kn, ks, αi, Fi, Si, Hi, kq, dq, wk, wv, dn, wn, wkn, C, hl, hk, hcat, hb, hm, r1, v1, r2, v2, hd, rd, rv, rk, rkv⟩ fin => by
    have mn : kn ∈ kall := by rw [← hcat]; simp
    obtain ⟨d1, n1, al⟩ := sort_ok ok kn mn
    obtain ⟨d2, _, _⟩ := sort_ok ok kq hm
    obtain ⟨as, ra⟩ := Dp.reads C.I _ _ _ (dp_of hK C.s.sub 64 _ _ d1 rk) rkv
    obtain ⟨bs, rb⟩ := Dp.reads C.I _ _ _ (dp_of hK C.s.sub 64 _ _ d2 r1) v1
    have dep := SeqAt.depth_of_shaped (shaped_of d1)
    have hz := zip_snoc (kn := kn) (dn := dn) (kd := kd) (ds := ds) (by rw [hl]; exact hd)
    refine PySem.W.rcLt_alike (toPy kn) (toPy kq) A t kx kb as bs ra rb (al kq hm) n1 (by have := Nat.min_le_left (toPy kn).depth (toPy kq).depth; omega) X.prog X.w E Q (fin _ (fun e => ?_) fun e => ?_)
    · refine ⟨kd ++ [kn], ks, αi, Fi, Si, Hi, kn, dn, wkn, wn, C, by simp [hl], hk, by rw [← hcat]; simp, ?_, mn, rk, rkv, rd, rv⟩
      rw [hz, best_snoc hb, if_pos (show ltDt kn kq = true from e)]
    · refine ⟨kd ++ [kn], ks, αi, Fi, Si, Hi, kq, dq, wk, wv, C, by simp [hl], hk, by rw [← hcat]; simp, ?_, hm, r1, v1, r2, v2⟩
      rw [hz, best_snoc hb, if_neg (show ¬ ltDt kn kq = true by rw [show ltDt kn kq = false from e]; exact Bool.false_ne_true)]
end

theorem args_min2_key (a b v : Value) : argsOk "min" ⟨[a, b], [(Str.ofString "key", v)]⟩ := by unfold argsOk; kernel_rfl
section
variable {X : Cx} {W : Wd} {E : XK} {pins : List (Addr × Obj)} {σ : L2.St} {H : Hp} {s : Shared} {α : Nat → Addr} {F : Hp} {S0 : Sto} {k f : Nat} {fd : FuncData} {ps : List Str} {rc : Nat → List Vl → Sto → Res Vl} {ds : List D} {zs : List Addr} {cell : Bool}
theorem best_fin {kall : List D} {Sn : Sto} {Q : VK} (hall : keysRun rc f ds S0 = .ok kall Sn) (p : Post W E (VlX W) α F S0 H (match bestOf (kall.zip ds) with | some (_, d) => .ok (.d d) Sn | none => .bad) Q) {vb kb : Value} {t : Shared}
    (m : MT X W pins σ zs α F S0 H rc f ds kall Sn ds.length vb kb t) : EP X pins σ Q vb t := by
  obtain ⟨kd, ks, αi, Fi, Si, Hi, kq, dq, wk, wv, C, hl, hk, hcat, hb, hm, r1, v1, r2, v2⟩ := m
  rw [List.drop_length] at hk
  cases hk
  rw [List.append_nil] at hcat
  subst hcat
  rw [hb] at p
  exact ⟨wv, Hi, C.I, v2, p wv αi Fi Hi C.x C.s r2⟩
theorem best_of {S0 : Sto} {Q : VK} (p : Post W E (VlX W) α F S0 H (keyedBest rc f ds S0) Q) : ∃ kall Sn, keysRun rc f ds S0 = .ok kall Sn ∧ sortOk kall = true ∧ Post W E (VlX W) α F S0 H (match bestOf (kall.zip ds) with | some (_, d) => .ok (.d d) Sn | none => .bad) Q := by
  unfold keyedBest at p
  cases q : keysRun rc f ds S0 with
  | bad => rw [q] at p; exact p.elim
  | exc ee Sx =>
    exfalso
    cases ds with
    | nil => cases q
    | cons d ds =>
      unfold keysRun at q
      split at q
      · split at q <;> cases q
      · cases q
  | ok kall Sn =>
    rw [q] at p
    have p : Post W E (VlX W) α F S0 H (if sortOk kall then (match bestOf (kall.zip ds) with | some (_, d) => .ok (.d d) Sn | none => .bad) else .bad) Q := p
    split at p
    · rename_i ok
      exact ⟨kall, Sn, rfl, ok, p⟩
    · exact p.elim
/-- min(a, b, key=f) -/
def rMin2 (W : Wd) (rc : Nat → List Vl → Sto → Res Vl) (f : Nat) : List V → List V → Hp → VK → Prop := fun vs zs H Q => ∃ E α F S x y v u, vs = [v, u] ∧ zs = [V.ref (W.fa f)] ∧ Sr W α F S H ∧ Rp W F x v ∧ Rp W F y u ∧ Post W E (VlX W) α F S H (keyedBest rc f [x, y] S) Q
theorem cr_min2 (hK : W.K = X.K) (hc : X.calm = true) (Fk : FnG X.prog X.w X.K X.mg X.base k (W.fa f) fd ps (spF W rc f)) (g : RoomG k X.A.in1) (hu : X.A.units + 110 < cLine) (bi : Binds X.K fd ps []) : CallRK X (.builtin "min") [Str.ofString "key"] (rMin2 W rc f) := by
  intro pins s σ H xs zs us ws Q I r rz h
  obtain ⟨E, α, F, S0, x, y, v, u, rfl, rfl, sr, rx, ry, p⟩ := h
  rw [Vals.ref1 rz]
  cases r with
  | cons a1 r =>
    cases r with
    | cons a2 r =>
      cases r
      rename_i u1 u2
      obtain ⟨kall, Sn, hall, ok, p⟩ := best_of p
      have hh : X.A.in1.handled = none := I.ok.hd hc
      have nm : (toString "min" ++ toString ".loop" : String) = "min.loop" := by decide
      refine kmk_tree PySem.F.kind_min PySem.F.plain_min PySem.F.entry_min (args_min2_key _ _ _) ?_
      show wpAny _ X.A.in1 (Builtin.Builtins.bindParams "min" ["key", "default"] 0 ⟨[], [(Str.ofString "key", .ref (W.fa f))]⟩ >>= _) _ _ s
      refine wpAny_bind (wpAny_of_eq (show Builtin.Builtins.bindParams "min" ["key", "default"] 0 ⟨[], [(Str.ofString "key", .ref (W.fa f))]⟩ = pure [some (.ref (W.fa f)), none] from rfl) ?_)
      refine wpAny_bind (wpAny_newTuple ?_ (by show 2 ≤ sizeLine; rw [sizeLine_eq]; decide))
      have I1 : Inv X pins σ H { s with heap := s.heap.push (seqObj "tuple" #[u1, u2] 0) } := I.kept (t' := s.toks) fun b o e => Heap.get?_push_of_some _ e
      have oT : Ours X pins s.heap.objs.size := Ours.of I (Nat.le_refl _)
      have gT : (s.heap.push (seqObj "tuple" #[u1, u2] 0)).get? s.heap.objs.size = some (seqObj "tuple" #[u1, u2] 0) := Heap.get?_push_size _ rfl
      refine wpAny_bind (PySem.W.iter_tupleW (vs := #[u1, u2]) hh ⟨_, gT, rfl, 0, rfl⟩ fun s2 e2 Wk st hfp _ keep => ?_)
      have oI : Ours X pins (s.heap.push (seqObj "tuple" #[u1, u2] 0)).objs.size := Ours.of I1 (Nat.le_refl _)
      have I2 : Inv X pins σ H s2 := by
        rw [e2]
        exact I1.kept (t' := s.toks) fun b o e => Heap.get?_push_of_some _ e
      have oS : Ours X pins s2.heap.objs.size := Ours.of I2 (Nat.le_refl _)
      refine wpAny_bind (wpAny_newObj_type ?_)
      rw [nm]
      have out : s2.heap.objs.size ∉ [(s.heap.push (seqObj "tuple" #[u1, u2] 0)).objs.size, s.heap.objs.size] := fun hm => Nat.lt_irrefl _ (hfp _ hm)
      have I3 : Inv X pins σ H { s2 with heap := s2.heap.push { cls := .type "list", data := .seq #[] 0 }, toks := s2.toks } := I2.kept (t' := s2.toks) fun b o e => Heap.get?_push_of_some _ e
      have st3 := Wk.frame 0 s2 (s2.heap.push { cls := .type "list", data := .seq #[] 0 }) s2.toks st (Nat.le_refl _) fun b _ o e => Heap.get?_push_of_some _ e
      have nI : H (s.heap.push (seqObj "tuple" #[u1, u2] 0)).objs.size = none := I1.hok.fresh (Nat.le_refl _)
      have nT : H s.heap.objs.size = none := I.hok.fresh (Nat.le_refl _)
      have nS : H s2.heap.objs.size = none := I2.hok.fresh (Nat.le_refl _)
      have Wd' : Walked X W pins σ F [x, y] [(s.heap.push (seqObj "tuple" #[u1, u2] 0)).objs.size, s.heap.objs.size] [(s.heap.push (seqObj "tuple" #[u1, u2] 0)).objs.size] (fun i v => (#[u1, u2] : Array Value)[i]? = some v)
          (fun i t => t.heap.IsTupleIter (s.heap.push (seqObj "tuple" #[u1, u2] 0)).objs.size s.heap.objs.size i ∧ t.heap.IsTuple s.heap.objs.size #[u1, u2]) := by
        refine ⟨fun {i t} ⟨⟨oi, gi, ci, di⟩, ⟨ot, gt, ct, nt, dt⟩⟩ => ⟨[((s.heap.push (seqObj "tuple" #[u1, u2] 0)).objs.size, oi), (s.heap.objs.size, ot)], fun q hq => ?_, fun z hz => ?_, fun {Hj t'} J sub keep' => ⟨⟨oi, keep' _ List.mem_cons_self, ci, di⟩, ⟨ot, keep' _ (List.mem_cons_of_mem _ List.mem_cons_self), ct, nt, dt⟩⟩⟩, fun {i v} hv => ?_, fun z hz => by simpa using Or.inl (List.mem_singleton.mp hz), fun z hz => ?_⟩
        · rcases List.mem_cons.mp hq with e | hq
          · rw [e]; exact ⟨by simp, gi, fun v z => by rw [di] at z; cases z⟩
          · rw [List.mem_singleton.mp hq]; exact ⟨by simp, gt, fun v z => by rw [dt] at z; cases z⟩
        · rcases List.mem_cons.mp hz with e | hz
          · exact ⟨oi, by rw [e]; simp⟩
          · exact ⟨ot, by rw [List.mem_singleton.mp hz]; simp⟩
        · match i, hv with
          | 0, hv => exact ⟨x, _, rfl, rx, (show u1 = v by simpa using hv) ▸ a1⟩
          | 1, hv => exact ⟨y, _, rfl, ry, (show u2 = v by simpa using hv) ▸ a2⟩
          | i + 2, hv => simp at hv
        · rcases List.mem_cons.mp hz with rfl | hz
          · exact oI
          · rw [List.mem_singleton.mp hz]; exact oT
      refine wpAny_pure ⟨plainId_quiet PySem.F.plain_min_loop _, min_first Wk out (key_loop (n := 2) hK Fk g bi rfl (by show X.A.units + 1 + 100 < cLine; omega) Wd' oS hall ok) (show 0 < 2 by decide) ⟨α, F, H, I3, Ext.refl, sr, fun z hz => ?_⟩ st3 (Heap.get?_push_size _ rfl) fun v kv t' m => best_fin hall p m⟩
      rcases List.mem_cons.mp hz with rfl | hz
      · exact nS
      · rcases List.mem_cons.mp hz with rfl | hz
        · exact nI
        · rw [List.mem_singleton.mp hz]; exact nT
end

/-! ### min of a list -/
theorem walksV {P : Program} {w : World} {A : Around} (hh : A.handled = none) (I l : Addr) (ne : l ≠ I) (vs : List V) : WalksS P w A I [I, l] [I] (fun a b => b = a) vs.length (fun i v => ∃ x, vs[i]? = some x ∧ RelV x v)
    (fun i t => t.heap.IsListIter I l i ∧ ∃ its : Array Value, t.heap.IsList l its ∧ Vals vs its.toList) := by
  have wk : ∀ its : Array Value, WalksS P w A I [I, l] [I] (fun a b => b = a) its.size (fun i v => its[i]? = some v) (fun i t => t.heap.IsListIter I l i ∧ t.heap.IsList l its) := fun its => (Walks.list (A := A) hh I l ne its).toS
  have sz : ∀ {its : Array Value}, Vals vs its.toList → its.size = vs.length := fun r => by rw [r.length, Array.length_toList]
  refine ⟨by simp, fun _ => rfl, fun _ _ _ a b => b.trans a, fun i s h' tk ⟨a, its, b, c⟩ le k => ?_, fun i s Q E lt ⟨a, its, b, c⟩ k => ?_, fun s Q E ⟨a, its, b, c⟩ k => ?_, fun i s Q E ⟨a, its, b, c⟩ q => ?_⟩
  · obtain ⟨a', b'⟩ := (wk its).frame i s h' tk ⟨a, b⟩ le k
    exact ⟨a', its, b', c⟩
  · refine (wk its).item i s Q E (by rw [sz c]; exact lt) ⟨a, b⟩ fun v s' it st m => k v s' ?_ ⟨st.1, its, st.2, c⟩ m
    obtain ⟨x, hx⟩ : ∃ x, vs[i]? = some x := ⟨_, List.getElem?_eq_getElem lt⟩
    obtain ⟨u, hu, ru⟩ := c.get hx
    rw [Array.getElem?_toList, it] at hu
    cases hu
    exact ⟨x, hx, ru⟩
  · exact (wk its).done s Q E (by rw [sz c]; exact ⟨a, b⟩) k
  · exact (wk its).self i s Q E ⟨a, b⟩ q
section
variable {X : Cx} {W : Wd} {E : XK} {k f : Nat} {fd : FuncData} {ps : List Str} {rc : Nat → List Vl → Sto → Res Vl}
def rMin1 (W : Wd) (rc : Nat → List Vl → Sto → Res Vl) (f : Nat) : List V → List V → Hp → VK → Prop := fun vs zs H Q => ∃ E α F S ds v, vs = [v] ∧ zs = [V.ref (W.fa f)] ∧ Sr W α F S H ∧ Rp W F (.lst ds) v ∧ Post W E (VlX W) α F S H (keyedBest rc f ds S) Q
theorem cr_min1 (hK : W.K = X.K) (hc : X.calm = true) (Fk : FnG X.prog X.w X.K X.mg X.base k (W.fa f) fd ps (spF W rc f)) (g : RoomG k X.A.in1) (hu : X.A.units + 110 < cLine) (bi : Binds X.K fd ps []) : CallRK X (.builtin "min") [Str.ofString "key"] (rMin1 W rc f) := by
  intro pins s σ H xs zs us ws Q I r rz h
  obtain ⟨E, α, F, S0, ds, v, rfl, rfl, sr, ⟨l, vs, rfl, hF, rs⟩, p⟩ := h
  rw [Vals.ref1 rz, Vals.ref1 r]
  obtain ⟨kall, Sn, hall, ok, p⟩ := best_of p
  have pos : 0 < ds.length := by
    cases ds with
    | nil => rw [List.zip_nil_right] at p; exact p.elim
    | cons d ds => exact Nat.succ_pos _
  have hh : X.A.in1.handled = none := I.ok.hd hc
  have nm : (toString "min" ++ toString ".loop" : String) = "min.loop" := by decide
  obtain ⟨its, rv, pl, _⟩ := I.list (.of (sr.sub _ _ hF))
  refine kmk_tree PySem.F.kind_min PySem.F.plain_min PySem.F.entry_min (kmk_min_key _ _) ?_
  show wpAny _ X.A.in1 (Builtin.Builtins.bindParams "min" ["key", "default"] 0 ⟨[], [(Str.ofString "key", .ref (W.fa f))]⟩ >>= _) _ _ s
  refine wpAny_bind (wpAny_of_eq (show Builtin.Builtins.bindParams "min" ["key", "default"] 0 ⟨[], [(Str.ofString "key", .ref (W.fa f))]⟩ = pure [some (.ref (W.fa f)), none] from rfl) ?_)
  refine wpAny_bind (wpAny_pure (show wpAny _ X.A.in1 (pyIter (.ref l) >>= _) _ _ s from wpAny_bind (PySem.W.iter_listW hh pl.isList fun s2 e2 _ st hfp _ keep => ?_)))
  have hlt : l < s.heap.objs.size := by obtain ⟨_, e, _⟩ := pl.isList; exact Heap.lt_size e
  have oI : Ours X pins s.heap.objs.size := Ours.of I (Nat.le_refl _)
  have I2 : Inv X pins σ H s2 := by
    rw [e2]
    exact I.kept (t' := s.toks) fun b o e => Heap.get?_push_of_some _ e
  have oS : Ours X pins s2.heap.objs.size := Ours.of I2 (Nat.le_refl _)
  refine wpAny_bind (wpAny_newObj_type ?_)
  rw [nm]
  have Wk := walksV (P := X.prog) (w := X.w) (A := X.A.in1) hh s.heap.objs.size l (Nat.ne_of_lt hlt) vs
  have out : s2.heap.objs.size ∉ [s.heap.objs.size, l] := fun hm => Nat.lt_irrefl _ (hfp _ hm)
  have I3 : Inv X pins σ H { s2 with heap := s2.heap.push { cls := .type "list", data := .seq #[] 0 }, toks := s2.toks } := I2.kept (t' := s2.toks) fun b o e => Heap.get?_push_of_some _ e
  have st3 := Wk.frame 0 s2 (s2.heap.push { cls := .type "list", data := .seq #[] 0 }) s2.toks ⟨st.1, its.toArray, st.2, by simpa using rv⟩ (Nat.le_refl _) fun b _ o e => Heap.get?_push_of_some _ e
  have nI : H s.heap.objs.size = none := I.hok.fresh (Nat.le_refl _)
  have nS : H s2.heap.objs.size = none := I2.hok.fresh (Nat.le_refl _)
  have Wd' : Walked X W pins σ F ds [s.heap.objs.size] [s.heap.objs.size] (fun i v => ∃ x, vs[i]? = some x ∧ RelV x v) (fun i t => t.heap.IsListIter s.heap.objs.size l i ∧ ∃ its : Array Value, t.heap.IsList l its ∧ Vals vs its.toList) := by
    refine ⟨fun {i t} ⟨⟨oi, gi, ci, di⟩, _⟩ => ⟨[(s.heap.objs.size, oi)], fun q hq => ?_, fun z hz => ⟨oi, by rw [List.mem_singleton.mp hz]; simp⟩, fun {Hj t'} J sub keep' => ?_⟩, fun {i v} ⟨x, hx, rx⟩ => ?_, fun z hz => hz, fun z hz => by rw [List.mem_singleton.mp hz]; exact oI⟩
    · rw [List.mem_singleton.mp hq]; exact ⟨by simp, gi, fun v z => by rw [di] at z; cases z⟩
    · obtain ⟨its', rv', pl', _⟩ := J.list (.of (sub _ _ hF))
      exact ⟨⟨oi, keep' _ List.mem_cons_self, ci, di⟩, its'.toArray, pl'.isList, by simpa using rv'⟩
    · have hl := rs.length
      obtain ⟨d, hd⟩ : ∃ d, ds[i]? = some d := ⟨_, List.getElem?_eq_getElem (by have := (List.getElem?_eq_some_iff.mp hx).1; omega)⟩
      obtain ⟨w, hw, rw'⟩ := rs.get hd
      rw [hx] at hw
      cases hw
      exact ⟨d, x, hd, rw', rx⟩
  refine wpAny_pure ⟨plainId_quiet PySem.F.plain_min_loop _, min_first Wk out (key_loop (n := vs.length) hK Fk g bi rfl (by show X.A.units + 1 + 100 < cLine; omega) Wd' oS hall ok) (by rw [← rs.length]; exact pos) ⟨α, F, H, I3, Ext.refl, sr, fun z hz => ?_⟩ st3 (Heap.get?_push_size _ rfl)
    fun v kv t' m => best_fin hall p (by rw [rs.length]; exact m)⟩
  rcases List.mem_cons.mp hz with rfl | hz
  · exact nS
  · rw [List.mem_singleton.mp hz]; exact nI
end
end Z
end

section
set_option maxRecDepth 100000
set_option maxHeartbeats 2000000
/-! G6: max(.., key=f), f a def of the text (G5's min turned). -/
namespace Z
open PySem PySem.Spec PyProof.Rows L2
/-- a run of min's loop, step by step: T i, what stands when i items are seen (vb the best, kb its key); U, when the next one's key is made -/
structure KeyLoopX (P : Program) (w : World) (A : Around) (q : Value) (S : Addr) (wr : List Addr) (G : Array GenState → Array GenState → Prop) (n : Nat) (It : Nat → Value → Prop) (St : Nat → Shared → Prop) (T0 : Shared → Prop) (T : Nat → Value → Value → Shared → Prop)
    (U : Nat → Value → Value → Value → Value → Shared → Prop) : Prop where
  keep0 : ∀ {t t'}, T0 t → Moved (S :: wr) G t t' → T0 t'
  keep : ∀ {i vb kb t t'}, T i vb kb t → Moved (S :: wr) G t t' → T i vb kb t'
  turn0 : ∀ {v : Value} {t : Shared} {xs : Array Value} {c : Nat} {Q : Value → Shared → Prop} {E : Value → Shared → Prop}, It 0 v → T0 t → St 1 t → t.heap.get? S = some { cls := .type "list", dict := none, data := .seq xs c, slots := #[] } → (∀ k t', T 1 v k t' → St 1 t' → t'.heap.get? S = some { cls := .type "list", dict := none, data := .seq xs c, slots := #[] } → Q k t') → wpAny (model P w) A (call q [v]) Q E t
  turn : ∀ {i : Nat} {v vb kb : Value} {t : Shared} {xs : Array Value} {c : Nat} {Q : Value → Shared → Prop} {E : Value → Shared → Prop}, 0 < i → i < n → It i v → T i vb kb t → St (i + 1) t → t.heap.get? S = some { cls := .type "list", dict := none, data := .seq xs c, slots := #[] } →
    (∀ k t', U i vb kb v k t' → St (i + 1) t' → t'.heap.get? S = some { cls := .type "list", dict := none, data := .seq xs c, slots := #[] } → Q k t') → wpAny (model P w) A (call q [v]) Q E t
  cmp : ∀ {i : Nat} {v k vb kb : Value} {t : Shared} {Q : Value → Shared → Prop} {E : Value → Shared → Prop}, 0 < i → i < n → U i vb kb v k t → (∀ r : Bool, (r = true → T (i + 1) v k t) → (r = false → T (i + 1) vb kb t) → Q (.bool r) t) → wpAny (model P w) A (richCompare .Gt k kb) Q E t
section
variable {P : Program} {w : World} {A : Around} {q S I : Addr} {fp wr : List Addr} {G : Array GenState → Array GenState → Prop} {n : Nat} {It : Nat → Value → Prop} {St : Nat → Shared → Prop} {T0 : Shared → Prop} {T : Nat → Value → Value → Shared → Prop}
  {U : Nat → Value → Value → Value → Value → Shared → Prop} {R : Result → Shared → Prop} {kw : List (Str × Value)}
theorem max_loop (Wk : WalksS P w A.in1 I fp wr G n It St) (out : S ∉ fp) (L : KeyLoopX P w A.in1 (.ref q) S wr G n It St T0 T U) :
    ∀ (k i : Nat) (t : Shared) (vb kb : Value) (c : Nat), n - i = k → 0 < i → i ≤ n → T i vb kb t → St i t → t.heap.get? S = some { cls := .type "list", dict := none, data := .seq #[vb, kb] c, slots := #[] } →
      (∀ v kv t', T n v kv t' → R (.ok (.ret v)) t') → codeAny (model P w) A (.builtin "max.loop" ⟨[.ref I, .ref q, .ref S], kw⟩) R t := by
  have nw : S ∉ wr := fun z => out (Wk.sub _ z)
  have up : ∀ b ∈ wr, b ∈ S :: wr := fun b z => List.mem_cons_of_mem _ z
  have nm : (toString "max" ++ toString ".loop" : String) = "max.loop" := by decide
  intro k
  induction k with
  | zero =>
    intro i t vb kb c hk h0 hi hT st hS fin
    have e : i = n := by omega
    subst e
    refine codeAny_builtin F.entry_max_loop ?_; rw [Around.under_plainId F.plain_max_loop _]
    show wpAny _ A.in1 (seqItems? (.ref S) >>= _) _ _ t
    refine wpAny_bind (wpAny_seqItems hS rfl (show wpAny _ A.in1 (tryCatch (pyNext (.ref I)) _ >>= _) _ _ t from wpAny_bind (wpAny_tryCatch (Wk.done t _ _ st fun t' mv => ?_))))
    have hS' := mv.heap S _ nw hS
    show wpAny _ A.in1 (updateSeq S (fun _ => #[]) >>= _) _ _ _
    refine wpAny_bind (wpAny_updateSeq hS' rfl (wpAny_bind (wpAny_letGo (wpAny_pure (fin vb kb _ (L.keep hT ?_))))))
    exact (mv.mono up).then_heap (tk := t'.toks) (Nat.le_refl _) fun b o hb e => (Heap.get?_update_other _ _ fun z => hb (by rw [z]; exact List.mem_cons_self)).trans e
  | succ k ih =>
    intro i t vb kb c hk h0 hi hT st hS fin
    have lt : i < n := by omega
    refine codeAny_builtin F.entry_max_loop ?_; rw [Around.under_plainId F.plain_max_loop _]
    show wpAny _ A.in1 (seqItems? (.ref S) >>= _) _ _ t
    refine wpAny_bind (wpAny_seqItems hS rfl (show wpAny _ A.in1 (tryCatch (pyNext (.ref I)) _ >>= _) _ _ t from wpAny_bind (wpAny_tryCatch (Wk.item i t _ _ lt st fun v t' it st' mv => ?_))))
    have hS' := mv.heap S _ nw hS
    show wpAny _ A.in1 (tryCatch (holding [v] (call (.ref q) [v])) _ >>= _) _ _ _
    refine wpAny_bind (wpAny_tryCatch (wpAny_holding (L.turn h0 lt it (L.keep hT (mv.mono up)) st' hS' fun kx t2 hU st2 hS2 => ?_)))
    show wpAny _ A.in1 (tryCatch (holding [v, kx] (richCompare .Gt kx kb >>= _)) _ >>= _) _ _ _
    refine wpAny_bind (wpAny_tryCatch (wpAny_holding (wpAny_bind (L.cmp h0 lt hU fun r yes no => ?_))))
    refine wpAny_bind (wpAny_holding (wpAny_truthy_bool (wpAny_bind (wpAny_letGo (wpAny_pure ?_)))))
    cases r with
    | true =>
      obtain ⟨m2, s2, c2, g2⟩ := best_put (o := default) (ys := #[v, kx]) Wk out st2 hS2
      simp only [if_true]
      refine wpAny_bind ?_; refine wpAny_updateSeq hS2 rfl (wpAny_bind (wpAny_letGo ?_))
      rw [nm]
      exact wpAny_pure ⟨plainId_quiet F.plain_max_loop _, ih (i + 1) _ v kx _ (by omega) (Nat.succ_pos _) lt (L.keep (yes rfl) m2) s2 g2 fin⟩
    | false =>
      simp only [Bool.false_eq_true, if_false]; refine wpAny_bind (wpAny_letGo ?_)
      rw [nm]
      exact wpAny_pure ⟨plainId_quiet F.plain_max_loop _, ih (i + 1) _ vb kb c (by omega) (Nat.succ_pos _) lt (no rfl) st2 hS2 fin⟩
theorem max_first (Wk : WalksS P w A.in1 I fp wr G n It St) (out : S ∉ fp) (L : KeyLoopX P w A.in1 (.ref q) S wr G n It St T0 T U) (pos : 0 < n) {t : Shared} {c : Nat} (hT : T0 t) (st : St 0 t)
    (hS : t.heap.get? S = some { cls := .type "list", dict := none, data := .seq #[] c, slots := #[] }) (fin : ∀ v kv t', T n v kv t' → R (.ok (.ret v)) t') : codeAny (model P w) A (.builtin "max.loop" ⟨[.ref I, .ref q, .ref S], kw⟩) R t := by
  have nw : S ∉ wr := fun z => out (Wk.sub _ z)
  have nm : (toString "max" ++ toString ".loop" : String) = "max.loop" := by decide
  refine codeAny_builtin F.entry_max_loop ?_; rw [Around.under_plainId F.plain_max_loop _]
  show wpAny _ A.in1 (seqItems? (.ref S) >>= _) _ _ t
  refine wpAny_bind (wpAny_seqItems hS rfl (show wpAny _ A.in1 (tryCatch (pyNext (.ref I)) _ >>= _) _ _ t from wpAny_bind (wpAny_tryCatch (Wk.item 0 t _ _ pos st fun v t' it st' mv => ?_))))
  have hS' := mv.heap S _ nw hS
  show wpAny _ A.in1 (tryCatch (holding [v] (call (.ref q) [v])) _ >>= _) _ _ _
  refine wpAny_bind (wpAny_tryCatch (wpAny_holding (L.turn0 it (L.keep0 hT (mv.mono fun b z => List.mem_cons_of_mem _ z)) st' hS' fun kx t2 hT2 st2 hS2 => ?_)))
  show wpAny _ A.in1 (updateSeq S (fun _ => #[v, kx]) >>= _) _ _ _
  obtain ⟨m2, s2, c2, g2⟩ := best_put (o := default) (ys := #[v, kx]) Wk out st2 hS2
  refine wpAny_bind ?_; refine wpAny_updateSeq hS2 rfl ?_
  rw [nm]
  exact wpAny_pure ⟨plainId_quiet F.plain_max_loop _, max_loop Wk out L _ 1 _ v kx _ rfl (Nat.succ_pos _) pos (L.keep hT2 m2) s2 g2 fin⟩
end

section
variable {X : Cx} {W : Wd} {pins : List (Addr × Obj)} {σ : L2.St} {H : Hp} {s : Shared} {α : Nat → Addr} {F : Hp} {S0 : Sto} {k f : Nat} {fd : FuncData} {ps : List Str} {rc : Nat → List Vl → Sto → Res Vl} {ds : List D} {zs wr : List Addr} {S : Addr} {n : Nat} {It : Nat → Value → Prop} {St : Nat → Shared → Prop} {kall : List D} {Sn : Sto}
def MTX (X : Cx) (W : Wd) (pins : List (Addr × Obj)) (σ : L2.St) (zs : List Addr) (α : Nat → Addr) (F : Hp) (S0 : Sto) (H : Hp) (rc : Nat → List Vl → Sto → Res Vl) (f : Nat) (ds kall : List D) (Sn : Sto) (i : Nat) (vb kb : Value) (t : Shared) : Prop :=
  ∃ kd ks αi Fi Si Hi kq dq wk wv, KSt X W pins σ zs α F S0 H αi Fi Si Hi t ∧ kd.length = i ∧ keysRun rc f (ds.drop i) Si = .ok ks Sn ∧ kd ++ ks = kall ∧ bestMax (kd.zip ds) = some (kq, dq) ∧ kq ∈ kall ∧ Rp W Fi kq wk ∧ RelV wk kb ∧ Rp W Fi dq wv ∧ RelV wv vb
def MUX (X : Cx) (W : Wd) (pins : List (Addr × Obj)) (σ : L2.St) (zs : List Addr) (α : Nat → Addr) (F : Hp) (S0 : Sto) (H : Hp) (rc : Nat → List Vl → Sto → Res Vl) (f : Nat) (ds kall : List D) (Sn : Sto) (i : Nat) (vb kb v k : Value) (t : Shared) : Prop :=
  ∃ kd kn ks αi Fi Si Hi kq dq wk wv dn wn wkn, KSt X W pins σ zs α F S0 H αi Fi Si Hi t ∧ kd.length = i ∧ keysRun rc f (ds.drop (i + 1)) Si = .ok ks Sn ∧ kd ++ kn :: ks = kall ∧ bestMax (kd.zip ds) = some (kq, dq) ∧ kq ∈ kall ∧ Rp W Fi kq wk ∧ RelV wk kb ∧ Rp W Fi dq wv ∧ RelV wv vb ∧
    ds[i]? = some dn ∧ Rp W Fi dn wn ∧ RelV wn v ∧ Rp W Fi kn wkn ∧ RelV wkn k
theorem best_snocX {l : List (D × D)} {b p : D × D} (h : bestMax l = some b) : bestMax (l ++ [p]) = some (if ltDt b.1 p.1 then p else b) := by
  cases l with
  | nil => cases h
  | cons q l =>
    simp only [bestMax, Option.some.injEq] at h
    simp only [List.cons_append, bestMax, List.foldl_append, List.foldl_cons, List.foldl_nil, h]
theorem key_loopX {A : Around} (hK : W.K = X.K) (Fk : FnG X.prog X.w X.K X.mg X.base k (W.fa f) fd ps (spF W rc f)) (g : RoomG k A) (bi : Binds X.K fd ps []) (fr : A.frames = X.A.frames) (hu : A.units + 100 < cLine) (Wk : Walked X W pins σ F ds zs wr It St) (oS : Ours X pins S)
    (hall : keysRun rc f ds S0 = .ok kall Sn) (ok : sortOk kall = true) :
    KeyLoopX X.prog X.w A (.ref (W.fa f)) S wr (fun a b => b = a) n It St (MT0 X W pins σ (S :: zs) α F S0 H) (MTX X W pins σ (S :: zs) α F S0 H rc f ds kall Sn) (MUX X W pins σ (S :: zs) α F S0 H rc f ds kall Sn) where
  keep0 := fun {t t'} ⟨αi, Fi, Hi, C⟩ m => ⟨αi, Fi, Hi, kst_moved Wk oS C m⟩
  keep := fun {i vb kb t t'} ⟨kd, ks, αi, Fi, Si, Hi, kq, dq, wk, wv, C, r⟩ m => ⟨kd, ks, αi, Fi, Si, Hi, kq, dq, wk, wv, kst_moved Wk oS C m, r⟩
  turn0 := fun {v t xs c Q E} hit ⟨αi, Fi, Hi, C⟩ st hS fin => by
    refine key_step (i := 0) Fk g bi fr Wk oS C hit st hS (by rw [List.drop_zero]; exact hall) fun kx t' αj Fj Sj Hj kn ks' dn wn wkn C' sub e hr hd rd rv rk rkv st' hS' => fin kx t' ?_ st' hS'
    subst e
    refine ⟨[kn], ks', αj, Fj, Sj, Hj, kn, dn, wkn, wn, C', rfl, hr, rfl, ?_, by simp, rk, rkv, rd, rv⟩
    cases ds with
    | nil => simp at hd
    | cons d ds => simp at hd; subst hd; simp [bestMax]
  turn := fun {i v vb kb t xs c Q E} h0 hi hit ⟨kd, ks, αi, Fi, Si, Hi, kq, dq, wk, wv, C, hl, hk, hcat, hb, hm, r1, v1, r2, v2⟩ st hS fin =>
    key_step Fk g bi fr Wk oS C hit st hS hk fun kx t' αj Fj Sj Hj kn ks' dn wn wkn C' sub e hr hd rd rv rk rkv st' hS' => fin kx t' ⟨kd, kn, ks', αj, Fj, Sj, Hj, kq, dq, wk, wv, dn, wn, wkn, C', hl, hr, by rw [← e]; exact hcat, hb, hm, Rp.mono sub r1, v1, Rp.mono sub r2, v2, hd, rd, rv, rk, rkv⟩ st' hS'
  cmp := fun {i v kx vb kb t Q E} h0 hi ⟨kd, kn, ks, αi, Fi, Si, Hi, kq, dq, wk, wv, dn, wn, wkn, C, hl, hk, hcat, hb, hm, r1, v1, r2, v2, hd, rd, rv, rk, rkv⟩ fin => by
    have mn : kn ∈ kall := by rw [← hcat]; simp
    obtain ⟨d1, n1, al⟩ := sort_ok ok kn mn
    obtain ⟨d2, _, _⟩ := sort_ok ok kq hm
    obtain ⟨as, ra⟩ := Dp.reads C.I _ _ _ (dp_of hK C.s.sub 64 _ _ d1 rk) rkv
    obtain ⟨bs, rb⟩ := Dp.reads C.I _ _ _ (dp_of hK C.s.sub 64 _ _ d2 r1) v1
    have dep := SeqAt.depth_of_shaped (shaped_of d1)
    have hz := zip_snoc (kn := kn) (dn := dn) (kd := kd) (ds := ds) (by rw [hl]; exact hd)
    refine PySem.W.rcGt_alike (toPy kn) (toPy kq) A t kx kb as bs ra rb (al kq hm) n1 (by have := Nat.min_le_left (toPy kn).depth (toPy kq).depth; omega) X.prog X.w E Q (fin _ (fun e => ?_) fun e => ?_)
    · refine ⟨kd ++ [kn], ks, αi, Fi, Si, Hi, kn, dn, wkn, wn, C, by simp [hl], hk, by rw [← hcat]; simp, ?_, mn, rk, rkv, rd, rv⟩
      rw [hz, best_snocX hb, if_pos (show ltDt kq kn = true from e)]
    · refine ⟨kd ++ [kn], ks, αi, Fi, Si, Hi, kq, dq, wk, wv, C, by simp [hl], hk, by rw [← hcat]; simp, ?_, hm, r1, v1, r2, v2⟩
      rw [hz, best_snocX hb, if_neg (show ¬ ltDt kq kn = true by rw [show ltDt kq kn = false from e]; exact Bool.false_ne_true)]
end

theorem args_max2_key (a b v : Value) : argsOk "max" ⟨[a, b], [(Str.ofString "key", v)]⟩ := by unfold argsOk; kernel_rfl
section
variable {X : Cx} {W : Wd} {E : XK} {pins : List (Addr × Obj)} {σ : L2.St} {H : Hp} {s : Shared} {α : Nat → Addr} {F : Hp} {S0 : Sto} {k f : Nat} {fd : FuncData} {ps : List Str} {rc : Nat → List Vl → Sto → Res Vl} {ds : List D} {zs : List Addr} {cell : Bool}
theorem best_finX {kall : List D} {Sn : Sto} {Q : VK} (hall : keysRun rc f ds S0 = .ok kall Sn) (p : Post W E (VlX W) α F S0 H (match bestMax (kall.zip ds) with | some (_, d) => .ok (.d d) Sn | none => .bad) Q) {vb kb : Value} {t : Shared}
    (m : MTX X W pins σ zs α F S0 H rc f ds kall Sn ds.length vb kb t) : EP X pins σ Q vb t := by
  obtain ⟨kd, ks, αi, Fi, Si, Hi, kq, dq, wk, wv, C, hl, hk, hcat, hb, hm, r1, v1, r2, v2⟩ := m
  rw [List.drop_length] at hk
  cases hk
  rw [List.append_nil] at hcat
  subst hcat
  rw [hb] at p
  exact ⟨wv, Hi, C.I, v2, p wv αi Fi Hi C.x C.s r2⟩
theorem best_ofX {S0 : Sto} {Q : VK} (p : Post W E (VlX W) α F S0 H (keyedMax rc f ds S0) Q) : ∃ kall Sn, keysRun rc f ds S0 = .ok kall Sn ∧ sortOk kall = true ∧ Post W E (VlX W) α F S0 H (match bestMax (kall.zip ds) with | some (_, d) => .ok (.d d) Sn | none => .bad) Q := by
  unfold keyedMax at p
  cases q : keysRun rc f ds S0 with
  | bad => rw [q] at p; exact p.elim
  | exc ee Sx =>
    exfalso
    cases ds with
    | nil => cases q
    | cons d ds =>
      unfold keysRun at q
      split at q
      · split at q <;> cases q
      · cases q
  | ok kall Sn =>
    rw [q] at p
    have p : Post W E (VlX W) α F S0 H (if sortOk kall then (match bestMax (kall.zip ds) with | some (_, d) => .ok (.d d) Sn | none => .bad) else .bad) Q := p
    split at p
    · rename_i ok
      exact ⟨kall, Sn, rfl, ok, p⟩
    · exact p.elim
/-- min(a, b, key=f) -/
def rMax2 (W : Wd) (rc : Nat → List Vl → Sto → Res Vl) (f : Nat) : List V → List V → Hp → VK → Prop := fun vs zs H Q => ∃ E α F S x y v u, vs = [v, u] ∧ zs = [V.ref (W.fa f)] ∧ Sr W α F S H ∧ Rp W F x v ∧ Rp W F y u ∧ Post W E (VlX W) α F S H (keyedMax rc f [x, y] S) Q
theorem cr_max2 (hK : W.K = X.K) (hc : X.calm = true) (Fk : FnG X.prog X.w X.K X.mg X.base k (W.fa f) fd ps (spF W rc f)) (g : RoomG k X.A.in1) (hu : X.A.units + 110 < cLine) (bi : Binds X.K fd ps []) : CallRK X (.builtin "max") [Str.ofString "key"] (rMax2 W rc f) := by
  intro pins s σ H xs zs us ws Q I r rz h
  obtain ⟨E, α, F, S0, x, y, v, u, rfl, rfl, sr, rx, ry, p⟩ := h
  rw [Vals.ref1 rz]
  cases r with
  | cons a1 r =>
    cases r with
    | cons a2 r =>
      cases r
      rename_i u1 u2
      obtain ⟨kall, Sn, hall, ok, p⟩ := best_ofX p
      have hh : X.A.in1.handled = none := I.ok.hd hc
      have nm : (toString "max" ++ toString ".loop" : String) = "max.loop" := by decide
      refine kmk_tree PySem.F.kind_max PySem.F.plain_max PySem.F.entry_max (args_max2_key _ _ _) ?_
      show wpAny _ X.A.in1 (Builtin.Builtins.bindParams "max" ["key", "default"] 0 ⟨[], [(Str.ofString "key", .ref (W.fa f))]⟩ >>= _) _ _ s
      refine wpAny_bind (wpAny_of_eq (show Builtin.Builtins.bindParams "max" ["key", "default"] 0 ⟨[], [(Str.ofString "key", .ref (W.fa f))]⟩ = pure [some (.ref (W.fa f)), none] from rfl) ?_)
      refine wpAny_bind (wpAny_newTuple ?_ (by show 2 ≤ sizeLine; rw [sizeLine_eq]; decide))
      have I1 : Inv X pins σ H { s with heap := s.heap.push (seqObj "tuple" #[u1, u2] 0) } := I.kept (t' := s.toks) fun b o e => Heap.get?_push_of_some _ e
      have oT : Ours X pins s.heap.objs.size := Ours.of I (Nat.le_refl _)
      have gT : (s.heap.push (seqObj "tuple" #[u1, u2] 0)).get? s.heap.objs.size = some (seqObj "tuple" #[u1, u2] 0) := Heap.get?_push_size _ rfl
      refine wpAny_bind (PySem.W.iter_tupleW (vs := #[u1, u2]) hh ⟨_, gT, rfl, 0, rfl⟩ fun s2 e2 Wk st hfp _ keep => ?_)
      have oI : Ours X pins (s.heap.push (seqObj "tuple" #[u1, u2] 0)).objs.size := Ours.of I1 (Nat.le_refl _)
      have I2 : Inv X pins σ H s2 := by
        rw [e2]
        exact I1.kept (t' := s.toks) fun b o e => Heap.get?_push_of_some _ e
      have oS : Ours X pins s2.heap.objs.size := Ours.of I2 (Nat.le_refl _)
      refine wpAny_bind (wpAny_newObj_type ?_)
      rw [nm]
      have out : s2.heap.objs.size ∉ [(s.heap.push (seqObj "tuple" #[u1, u2] 0)).objs.size, s.heap.objs.size] := fun hm => Nat.lt_irrefl _ (hfp _ hm)
      have I3 : Inv X pins σ H { s2 with heap := s2.heap.push { cls := .type "list", data := .seq #[] 0 }, toks := s2.toks } := I2.kept (t' := s2.toks) fun b o e => Heap.get?_push_of_some _ e
      have st3 := Wk.frame 0 s2 (s2.heap.push { cls := .type "list", data := .seq #[] 0 }) s2.toks st (Nat.le_refl _) fun b _ o e => Heap.get?_push_of_some _ e
      have nI : H (s.heap.push (seqObj "tuple" #[u1, u2] 0)).objs.size = none := I1.hok.fresh (Nat.le_refl _)
      have nT : H s.heap.objs.size = none := I.hok.fresh (Nat.le_refl _)
      have nS : H s2.heap.objs.size = none := I2.hok.fresh (Nat.le_refl _)
      have Wd' : Walked X W pins σ F [x, y] [(s.heap.push (seqObj "tuple" #[u1, u2] 0)).objs.size, s.heap.objs.size] [(s.heap.push (seqObj "tuple" #[u1, u2] 0)).objs.size] (fun i v => (#[u1, u2] : Array Value)[i]? = some v)
          (fun i t => t.heap.IsTupleIter (s.heap.push (seqObj "tuple" #[u1, u2] 0)).objs.size s.heap.objs.size i ∧ t.heap.IsTuple s.heap.objs.size #[u1, u2]) := by
        refine ⟨fun {i t} ⟨⟨oi, gi, ci, di⟩, ⟨ot, gt, ct, nt, dt⟩⟩ => ⟨[((s.heap.push (seqObj "tuple" #[u1, u2] 0)).objs.size, oi), (s.heap.objs.size, ot)], fun q hq => ?_, fun z hz => ?_, fun {Hj t'} J sub keep' => ⟨⟨oi, keep' _ List.mem_cons_self, ci, di⟩, ⟨ot, keep' _ (List.mem_cons_of_mem _ List.mem_cons_self), ct, nt, dt⟩⟩⟩, fun {i v} hv => ?_, fun z hz => by simpa using Or.inl (List.mem_singleton.mp hz), fun z hz => ?_⟩
        · rcases List.mem_cons.mp hq with e | hq
          · rw [e]; exact ⟨by simp, gi, fun v z => by rw [di] at z; cases z⟩
          · rw [List.mem_singleton.mp hq]; exact ⟨by simp, gt, fun v z => by rw [dt] at z; cases z⟩
        · rcases List.mem_cons.mp hz with e | hz
          · exact ⟨oi, by rw [e]; simp⟩
          · exact ⟨ot, by rw [List.mem_singleton.mp hz]; simp⟩
        · match i, hv with
          | 0, hv => exact ⟨x, _, rfl, rx, (show u1 = v by simpa using hv) ▸ a1⟩
          | 1, hv => exact ⟨y, _, rfl, ry, (show u2 = v by simpa using hv) ▸ a2⟩
          | i + 2, hv => simp at hv
        · rcases List.mem_cons.mp hz with rfl | hz
          · exact oI
          · rw [List.mem_singleton.mp hz]; exact oT
      refine wpAny_pure ⟨plainId_quiet PySem.F.plain_max_loop _, max_first Wk out (key_loopX (n := 2) hK Fk g bi rfl (by show X.A.units + 1 + 100 < cLine; omega) Wd' oS hall ok) (show 0 < 2 by decide) ⟨α, F, H, I3, Ext.refl, sr, fun z hz => ?_⟩ st3 (Heap.get?_push_size _ rfl) fun v kv t' m => best_finX hall p m⟩
      rcases List.mem_cons.mp hz with rfl | hz
      · exact nS
      · rcases List.mem_cons.mp hz with rfl | hz
        · exact nI
        · rw [List.mem_singleton.mp hz]; exact nT
end

section
variable {X : Cx} {W : Wd} {E : XK} {k f : Nat} {fd : FuncData} {ps : List Str} {rc : Nat → List Vl → Sto → Res Vl}
def rMax1 (W : Wd) (rc : Nat → List Vl → Sto → Res Vl) (f : Nat) : List V → List V → Hp → VK → Prop := fun vs zs H Q => ∃ E α F S ds v, vs = [v] ∧ zs = [V.ref (W.fa f)] ∧ Sr W α F S H ∧ Rp W F (.lst ds) v ∧ Post W E (VlX W) α F S H (keyedMax rc f ds S) Q
theorem cr_max1 (hK : W.K = X.K) (hc : X.calm = true) (Fk : FnG X.prog X.w X.K X.mg X.base k (W.fa f) fd ps (spF W rc f)) (g : RoomG k X.A.in1) (hu : X.A.units + 110 < cLine) (bi : Binds X.K fd ps []) : CallRK X (.builtin "max") [Str.ofString "key"] (rMax1 W rc f) := by
  intro pins s σ H xs zs us ws Q I r rz h
  obtain ⟨E, α, F, S0, ds, v, rfl, rfl, sr, ⟨l, vs, rfl, hF, rs⟩, p⟩ := h
  rw [Vals.ref1 rz, Vals.ref1 r]
  obtain ⟨kall, Sn, hall, ok, p⟩ := best_ofX p
  have pos : 0 < ds.length := by
    cases ds with
    | nil => rw [List.zip_nil_right] at p; exact p.elim
    | cons d ds => exact Nat.succ_pos _
  have hh : X.A.in1.handled = none := I.ok.hd hc
  have nm : (toString "max" ++ toString ".loop" : String) = "max.loop" := by decide
  obtain ⟨its, rv, pl, _⟩ := I.list (.of (sr.sub _ _ hF))
  refine kmk_tree PySem.F.kind_max PySem.F.plain_max PySem.F.entry_max (kmk_max_key _ _) ?_
  show wpAny _ X.A.in1 (Builtin.Builtins.bindParams "max" ["key", "default"] 0 ⟨[], [(Str.ofString "key", .ref (W.fa f))]⟩ >>= _) _ _ s
  refine wpAny_bind (wpAny_of_eq (show Builtin.Builtins.bindParams "max" ["key", "default"] 0 ⟨[], [(Str.ofString "key", .ref (W.fa f))]⟩ = pure [some (.ref (W.fa f)), none] from rfl) ?_)
  refine wpAny_bind (wpAny_pure (show wpAny _ X.A.in1 (pyIter (.ref l) >>= _) _ _ s from wpAny_bind (PySem.W.iter_listW hh pl.isList fun s2 e2 _ st hfp _ keep => ?_)))
  have hlt : l < s.heap.objs.size := by obtain ⟨_, e, _⟩ := pl.isList; exact Heap.lt_size e
  have oI : Ours X pins s.heap.objs.size := Ours.of I (Nat.le_refl _)
  have I2 : Inv X pins σ H s2 := by
    rw [e2]
    exact I.kept (t' := s.toks) fun b o e => Heap.get?_push_of_some _ e
  have oS : Ours X pins s2.heap.objs.size := Ours.of I2 (Nat.le_refl _)
  refine wpAny_bind (wpAny_newObj_type ?_)
  rw [nm]
  have Wk := walksV (P := X.prog) (w := X.w) (A := X.A.in1) hh s.heap.objs.size l (Nat.ne_of_lt hlt) vs
  have out : s2.heap.objs.size ∉ [s.heap.objs.size, l] := fun hm => Nat.lt_irrefl _ (hfp _ hm)
  have I3 : Inv X pins σ H { s2 with heap := s2.heap.push { cls := .type "list", data := .seq #[] 0 }, toks := s2.toks } := I2.kept (t' := s2.toks) fun b o e => Heap.get?_push_of_some _ e
  have st3 := Wk.frame 0 s2 (s2.heap.push { cls := .type "list", data := .seq #[] 0 }) s2.toks ⟨st.1, its.toArray, st.2, by simpa using rv⟩ (Nat.le_refl _) fun b _ o e => Heap.get?_push_of_some _ e
  have nI : H s.heap.objs.size = none := I.hok.fresh (Nat.le_refl _)
  have nS : H s2.heap.objs.size = none := I2.hok.fresh (Nat.le_refl _)
  have Wd' : Walked X W pins σ F ds [s.heap.objs.size] [s.heap.objs.size] (fun i v => ∃ x, vs[i]? = some x ∧ RelV x v) (fun i t => t.heap.IsListIter s.heap.objs.size l i ∧ ∃ its : Array Value, t.heap.IsList l its ∧ Vals vs its.toList) := by
    refine ⟨fun {i t} ⟨⟨oi, gi, ci, di⟩, _⟩ => ⟨[(s.heap.objs.size, oi)], fun q hq => ?_, fun z hz => ⟨oi, by rw [List.mem_singleton.mp hz]; simp⟩, fun {Hj t'} J sub keep' => ?_⟩, fun {i v} ⟨x, hx, rx⟩ => ?_, fun z hz => hz, fun z hz => by rw [List.mem_singleton.mp hz]; exact oI⟩
    · rw [List.mem_singleton.mp hq]; exact ⟨by simp, gi, fun v z => by rw [di] at z; cases z⟩
    · obtain ⟨its', rv', pl', _⟩ := J.list (.of (sub _ _ hF))
      exact ⟨⟨oi, keep' _ List.mem_cons_self, ci, di⟩, its'.toArray, pl'.isList, by simpa using rv'⟩
    · have hl := rs.length
      obtain ⟨d, hd⟩ : ∃ d, ds[i]? = some d := ⟨_, List.getElem?_eq_getElem (by have := (List.getElem?_eq_some_iff.mp hx).1; omega)⟩
      obtain ⟨w, hw, rw'⟩ := rs.get hd
      rw [hx] at hw
      cases hw
      exact ⟨d, x, hd, rw', rx⟩
  refine wpAny_pure ⟨plainId_quiet PySem.F.plain_max_loop _, max_first Wk out (key_loopX (n := vs.length) hK Fk g bi rfl (by show X.A.units + 1 + 100 < cLine; omega) Wd' oS hall ok) (by rw [← rs.length]; exact pos) ⟨α, F, H, I3, Ext.refl, sr, fun z hz => ?_⟩ st3 (Heap.get?_push_size _ rfl)
    fun v kv t' m => best_finX hall p (by rw [rs.length]; exact m)⟩
  rcases List.mem_cons.mp hz with rfl | hz
  · exact nS
  · rw [List.mem_singleton.mp hz]; exact nI
end
/-! ### key= in the language -/
section
variable {X : Cx} {W : Wd} {Es : SX} {k f : Nat} {fd : FuncData} {ps : List Str} {rc : Nat → List Vl → Sto → Res Vl} {cell : Bool} {e : Expr} {es : List Expr} {pos p1 gp kp : Pos} {x g : Str} {fs : Env → Sto → Res (List Vl)} {b : Kf} {id : String} {r : List V → List V → Hp → VK → Prop}
theorem de_kf0 (cr : CallRK X (.builtin id) [Str.ofString "key"] r) (hv : bootBuiltins x = some (.builtin id)) (hg : Gl X x) (hm : X.mg x = none) (hn : x ≠ "__name__") (hd : (x == ("__debug__" : Str)) = false) (hgg : Gl X g) (hmg : X.mg g = some (.ref (W.fa f))) (hdg : (g == ("__debug__" : Str)) = false)
    (h1 : notStar e = true) (h2 : es.all notStar = true) (ha : PA X (e :: es) (tDA W Es fs)) (go : ∀ {E α F S H Q as vs}, Sr W α F S H → VlRs W α F S.length as vs → Post W E (VlX W) α F S H (keyed rc b f cell as S) Q → r vs [V.ref (W.fa f)] H Q) :
    PE X (.Call (.Name x p1) (e :: es) [⟨some "key", .Name g gp, kp⟩] pos) (tD W Es fun ρ S => (fs ρ S).bind fun vs S => keyed rc b f cell vs S) :=
  peI (pe_callBK cr hg hm hv ha (pk_cons (pe_glob (v := .ref (W.fa f)) hgg hmg rfl hdg) pk_nil) hn hd (by rw [star_cons h1]; rfl) (star_none (by rw [List.all_cons, h1, h2]; rfl)) rfl rfl rfl)
    fun σ H Q ⟨α, F, ρ, S, s, er, p⟩ => ⟨α, F, ρ, S, s, er, (Post.bind (Rel := VlXs W) p).imp fun vs H1 ⟨α1, F1, as, S1, x1, s1, r1, p1⟩ => go s1 r1 p1⟩
theorem min1_no {E : XK} {α : Nat → Addr} {F : Hp} {S : Sto} {H : Hp} {Q : VK} {u v : Vl} {l : List Vl} (p : Post W E (VlX W) α F S H (keyed rc .min1 f cell (u :: v :: l) S) Q) : False := by
  cases u with
  | p _ => exact p
  | d y => cases y <;> exact p
theorem max1_no {E : XK} {α : Nat → Addr} {F : Hp} {S : Sto} {H : Hp} {Q : VK} {u v : Vl} {l : List Vl} (p : Post W E (VlX W) α F S H (keyed rc .max1 f cell (u :: v :: l) S) Q) : False := by
  cases u with
  | p _ => exact p
  | d y => cases y <;> exact p
theorem boot_max' : bootBuiltins "max" = some (.builtin "max") := by decide +kernel
theorem boot_min' : bootBuiltins "min" = some (.builtin "min") := by decide +kernel
/-- what f(.., key=) is -/
theorem de_kf (hK : W.K = X.K) (hc : X.calm = true) (Fk : FnG X.prog X.w X.K X.mg X.base k (W.fa f) fd ps (spF W rc f)) (rm : RoomB k X.A) (bi : Binds X.K fd ps []) (hb : kfOf x (e :: es).length = some b) (hg : Gl X x) (hm : X.mg x = none) (hn : x ≠ "__name__") (hd : (x == ("__debug__" : Str)) = false)
    (hgg : Gl X g) (hmg : X.mg g = some (.ref (W.fa f))) (hdg : (g == ("__debug__" : Str)) = false) (h1 : notStar e = true) (h2 : es.all notStar = true) (ha : PA X (e :: es) (tDA W Es fs)) :
    PE X (.Call (.Name x p1) (e :: es) [⟨some "key", .Name g gp, kp⟩] pos) (tD W Es fun ρ S => (fs ρ S).bind fun vs S => keyed rc b f cell vs S) := by
  have u1 : X.A.units + 110 < cLine := by have := rm.sl; omega
  have g1 : RoomG k X.A.in1 := ⟨⟨rm.rm.hd, rm.rm.dp, by have := rm.sl; show X.A.units + 1 + 16 * k + 200 < cLine; omega⟩, rm.gs⟩
  unfold kfOf at hb
  split at hb
  · rename_i hx
    rw [Bool.and_eq_true] at hx
    cases hb
    have hx1 := beq_iff_eq.mp hx.1
    subst hx1
    refine de_kf0 (cr_ksort (cell := cell) hK Fk rm.two u1 bi) boot_sorted' hg hm hn hd hgg hmg hdg h1 h2 ha fun {E α F S H Q as vs} s r p => ?_
    match as, r, p with
    | [], _, p => exact p.elim
    | [_], r, p => cases r with | cons r1 r2 => cases r2; exact ⟨_, α, F, S, _, _, rfl, rfl, s, r1, p⟩
    | _ :: _ :: _, _, p => exact p.elim
  · split at hb
    · rename_i hx
      rw [Bool.and_eq_true] at hx
      cases hb
      have hx1 := beq_iff_eq.mp hx.1
      subst hx1
      refine de_kf0 (cr_min1 hK hc Fk g1 u1 bi) boot_min' hg hm hn hd hgg hmg hdg h1 h2 ha fun {E α F S H Q as vs} s r p => ?_
      match as, r, p with
      | [], _, p => exact p.elim
      | [.p _], _, p => exact p.elim
      | [.d y], r, p =>
        cases y with
        | lst ds => cases r with | cons r1 r2 => cases r2; exact ⟨_, α, F, S, _, _, rfl, rfl, s, r1, p⟩
        | _ => exact p.elim
      | _ :: _ :: _, _, p => exact (min1_no p).elim
    · split at hb
      · rename_i hx
        rw [Bool.and_eq_true] at hx
        cases hb
        have hx1 := beq_iff_eq.mp hx.1
        subst hx1
        refine de_kf0 (cr_min2 hK hc Fk g1 u1 bi) boot_min' hg hm hn hd hgg hmg hdg h1 h2 ha fun {E α F S H Q as vs} s r p => ?_
        match as, r, p with
        | [], _, p => exact p.elim
        | [.d y], _, p => exact p.elim
        | [.p _], _, p => exact p.elim
        | [.d y, .d z], r, p => cases r with | cons r1 r2 => cases r2 with | cons r2 r3 => cases r3; exact ⟨_, α, F, S, _, _, _, _, rfl, rfl, s, r1, r2, p⟩
        | [.d y, .p _], _, p => exact p.elim
        | [.p _, _], _, p => exact p.elim
        | [.d _, .d _, _], _, p => exact p.elim
        | [.d _, .p _, _], _, p => exact p.elim
        | [.p _, _, _], _, p => exact p.elim
        | .d _ :: .d _ :: _ :: _ :: _, _, p => exact p.elim
        | .d _ :: .p _ :: _ :: _ :: _, _, p => exact p.elim
        | .p _ :: _ :: _ :: _ :: _, _, p => exact p.elim
      · split at hb
        · rename_i hx
          rw [Bool.and_eq_true] at hx
          cases hb
          have hx1 := beq_iff_eq.mp hx.1
          subst hx1
          refine de_kf0 (cr_max1 hK hc Fk g1 u1 bi) boot_max' hg hm hn hd hgg hmg hdg h1 h2 ha fun {E α F S H Q as vs} s r p => ?_
          match as, r, p with
          | [], _, p => exact p.elim
          | [.p _], _, p => exact p.elim
          | [.d y], r, p =>
            cases y with
            | lst ds => cases r with | cons r1 r2 => cases r2; exact ⟨_, α, F, S, _, _, rfl, rfl, s, r1, p⟩
            | _ => exact p.elim
          | _ :: _ :: _, _, p => exact (max1_no p).elim
        · split at hb
          · rename_i hx
            rw [Bool.and_eq_true] at hx
            cases hb
            have hx1 := beq_iff_eq.mp hx.1
            subst hx1
            refine de_kf0 (cr_max2 hK hc Fk g1 u1 bi) boot_max' hg hm hn hd hgg hmg hdg h1 h2 ha fun {E α F S H Q as vs} s r p => ?_
            match as, r, p with
            | [], _, p => exact p.elim
            | [.d y], _, p => exact p.elim
            | [.p _], _, p => exact p.elim
            | [.d y, .d z], r, p => cases r with | cons r1 r2 => cases r2 with | cons r2 r3 => cases r3; exact ⟨_, α, F, S, _, _, _, _, rfl, rfl, s, r1, r2, p⟩
            | [.d y, .p _], _, p => exact p.elim
            | [.p _, _], _, p => exact p.elim
            | [.d _, .d _, _], _, p => exact p.elim
            | [.d _, .p _, _], _, p => exact p.elim
            | [.p _, _, _], _, p => exact p.elim
            | .d _ :: .d _ :: _ :: _ :: _, _, p => exact p.elim
            | .d _ :: .p _ :: _ :: _ :: _, _, p => exact p.elim
            | .p _ :: _ :: _ :: _ :: _, _, p => exact p.elim
          · cases hb
end
end Z
end

section
set_option maxHeartbeats 1000000
/-! Z14: statements. -/
namespace Z
open PySem L2

def PostS (W : Wd) (Es : SX) (α : Nat → Addr) (F : Hp) (S : Sto) (H : Hp) (r : RS) (D : Ends) : Prop :=
  match r with
  | .nx ρ S' => ∀ σ' α' F' H', Ext α F S H α' F' S' H' → Sr W α' F' S' H' → EnvR W α' F' S'.length ρ σ' → D.nx σ' H'
  | .bk ρ S' => ∀ σ' α' F' H', Ext α F S H α' F' S' H' → Sr W α' F' S' H' → EnvR W α' F' S'.length ρ σ' → D.bk σ' H'
  | .ct ρ S' => ∀ σ' α' F' H', Ext α F S H α' F' S' H' → Sr W α' F' S' H' → EnvR W α' F' S'.length ρ σ' → D.ct σ' H'
  | .rt v S' => ∀ w α' F' H', Ext α F S H α' F' S' H' → Sr W α' F' S' H' → VlR W α' F' S'.length v w → D.rt w H'
  | .exc e ρ S' => ∀ σ' c d α' F' H', Ext α F S H α' F' S' H' → Sr W α' F' S' H' → EnvR W α' F' S'.length ρ σ' → ExR W F' H' e c d → Es σ' c d H'
  | .bad => False
def tDS (W : Wd) (Es : SX) (f : Env → Sto → RS) : TS := fun D σ H => ∃ α F ρ S, Sr W α F S H ∧ EnvR W α F S.length ρ σ ∧ PostS W Es α F S H (f ρ S) D
theorem psI {X : Cx} {st : Stmt} {t t' : TS} (h : PS X st t) (k : ∀ D σ H, t' D σ H → t D σ H) : PS X st t' := ⟨fun pins s σ H D I q => h.run pins s σ H D I (k D σ H q)⟩
theorem pssI {X : Cx} {st : List Stmt} {t t' : TS} (h : PSs X st t) (k : ∀ D σ H, t' D σ H → t D σ H) : PSs X st t' := ⟨fun pins s σ H D I q => h.run pins s σ H D I (k D σ H q)⟩

section
variable {W : Wd} {E : XK} {Es : SX} {α α' : Nat → Addr} {F F' : Hp} {S S' : Sto} {H H' : Hp} {τ β : Type} {Rel : (Nat → Addr) → Hp → Sto → Hp → τ → β → Prop}
theorem PostS.rebase {r : RS} {D : Ends} (x : Ext α F S H α' F' S' H') (p : PostS W Es α F S H r D) : PostS W Es α' F' S' H' r D := by
  cases r with
  | nx ρ S'' => exact fun σ α2 F2 H2 y s q => p σ α2 F2 H2 (x.trans y) s q
  | bk ρ S'' => exact fun σ α2 F2 H2 y s q => p σ α2 F2 H2 (x.trans y) s q
  | ct ρ S'' => exact fun σ α2 F2 H2 y s q => p σ α2 F2 H2 (x.trans y) s q
  | rt v S'' => exact fun σ α2 F2 H2 y s q => p σ α2 F2 H2 (x.trans y) s q
  | exc e ρ S'' => exact fun σ c d α2 F2 H2 y s q => p σ c d α2 F2 H2 (x.trans y) s q
  | bad => exact p
def MidS (W : Wd) (Es : SX) (Rel : (Nat → Addr) → Hp → Sto → Hp → τ → β → Prop) (α : Nat → Addr) (F : Hp) (S : Sto) (H : Hp) (g : τ → Sto → RS) (D : Ends) (w : β) (H1 : Hp) : Prop :=
  ∃ α1 F1 a S1, Ext α F S H α1 F1 S1 H1 ∧ Sr W α1 F1 S1 H1 ∧ Rel α1 F1 S1 H1 a w ∧ PostS W Es α1 F1 S1 H1 (g a S1) D
theorem Post.thn {r : Res τ} {g : τ → Sto → RS} {D : Ends} {ρ : Env} {σ : L2.St} (er : EnvR W α F S.length ρ σ) (p : PostS W Es α F S H (r.thn ρ g) D) : Post W (Es σ) Rel α F S H r (MidS W Es Rel α F S H g D) := by
  cases r with
  | ok a S' => exact fun w α' F' H' x s q => ⟨α', F', a, S', x, s, q, PostS.rebase x p⟩
  | exc e S' => exact fun c d α' F' H' x s q => p σ c d α' F' H' x s (er.ext x) q
  | bad => exact p
theorem PostS.here {ρ : Env} {σ : L2.St} {D : Ends} (p : PostS W Es α F S H (.nx ρ S) D) (s : Sr W α F S H) (er : EnvR W α F S.length ρ σ) : D.nx σ H := p σ α F H Ext.refl s er
end

section
variable {X : Cx} {W : Wd} {E : XK} {Es : SX} {a b c e tg : Expr} {es : List Expr} {pos : Pos} {fa fb fc : Env → Sto → Res Vl} {fs : Env → Sto → Res (List Vl)} {st : Stmt} {sts : List Stmt}
variable {α : Nat → Addr} {F : Hp} {S : Sto} {H : Hp} {Q : VK} {x y : Vl} {v u : V} {g h : Env → Sto → RS}

theorem dss_nil : PSs X [] (tDS W Es fun ρ S => .nx ρ S) := pssI pss_nil fun D σ H ⟨α, F, ρ, S, s, er, p⟩ => p.here s er
theorem dss_cons (h1 : PS X st (tDS W Es g)) (h2 : PSs X sts (tDS W Es h)) : PSs X (st :: sts) (tDS W Es fun ρ S => (g ρ S).seq h) := by
  refine pssI (pss_cons h1 h2) fun D σ H ⟨α, F, ρ, S, s, er, p⟩ => ⟨α, F, ρ, S, s, er, ?_⟩
  dsimp only at p
  cases hg : g ρ S with
  | nx ρ' S' =>
    rw [hg] at p
    exact fun σ' α' F' H' x s' er' => ⟨α', F', ρ', S', s', er', PostS.rebase x p⟩
  | rt v S' => rw [hg] at p; exact p
  | bk ρ' S' => rw [hg] at p; exact p
  | ct ρ' S' => rw [hg] at p; exact p
  | exc ee ρ' S' => rw [hg] at p; exact p
  | bad => rw [hg] at p; exact p.elim
theorem ds_pass : PS X (.Pass pos) (tDS W Es fun ρ S => .nx ρ S) := psI ps_pass fun D σ H ⟨α, F, ρ, S, s, er, p⟩ => p.here s er
theorem ds_break : PS X (.Break pos) (tDS W Es fun ρ S => .bk ρ S) := psI ps_break fun D σ H ⟨α, F, ρ, S, s, er, p⟩ => p σ α F H Ext.refl s er
theorem ds_cont : PS X (.Continue pos) (tDS W Es fun ρ S => .ct ρ S) := psI ps_continue fun D σ H ⟨α, F, ρ, S, s, er, p⟩ => p σ α F H Ext.refl s er
theorem ds_stop : PS X st (tDS W Es fun _ _ => .bad) := psI ps_never fun D σ H ⟨α, F, ρ, S, s, er, p⟩ => p
def retF (fa : Env → Sto → Res Vl) : Env → Sto → RS := fun ρ S => (fa ρ S).thn ρ fun v S => .rt v S
theorem ds_ret (ha : PE X a (tD W Es fa)) : PS X (.Return (some a) pos) (tDS W Es (retF fa)) := psI (ps_ret ha) fun D σ H ⟨α, F, ρ, S, s, er, p⟩ =>
  ⟨α, F, ρ, S, s, er, (Post.thn er (Rel := VlX W) p).imp fun v H1 ⟨α1, F1, x, S1, x1, s1, r1, p1⟩ => p1 v α1 F1 H1 Ext.refl s1 r1⟩
theorem ds_retN : PS X (.Return none pos) (tDS W Es fun ρ S => (Res.ok (Vl.d .non) S).thn ρ fun v S => .rt v S) := psI ps_retN fun D σ H ⟨α, F, ρ, S, s, er, p⟩ => p .non α F H Ext.refl s rfl
def exprF (fa : Env → Sto → Res Vl) : Env → Sto → RS := fun ρ S => (fa ρ S).thn ρ fun _ S => .nx ρ S
theorem sw_not (h : isLc e = false) {t : Option Expr} {l : Nat} {env : PySem.Env} : swapsWith e t l env = pure false := by
  cases e <;> first | rfl | (simp [isLc] at h)
theorem swS_not (h : isLc e = false) {t : Expr} {l : Nat} {env : PySem.Env} : PySem.swapsWithSole [t] e l env = pure false := sw_not h
theorem ds_expr (hl : isLc a = false) (ha : PE X a (tD W Es fa)) : PS X (.Expr a pos) (tDS W Es (exprF fa)) := psI (ps_expr ha (sw_not hl)) fun D σ H ⟨α, F, ρ, S, s, er, p⟩ =>
  ⟨α, F, ρ, S, s, er, (Post.thn er (Rel := VlX W) p).imp fun v H1 ⟨α1, F1, x, S1, x1, s1, r1, p1⟩ => p1.here s1 (er.ext x1)⟩
def asgF (t : Tg) (fa : Env → Sto → Res Vl) : Env → Sto → RS := fun ρ S => (fa ρ S).thn ρ fun v S => match bindT t v ρ with
    | some ρ => .nx ρ S
    | none => .bad
theorem asg_go {t : Tg} {D : Ends} {ρ : Env} {σ : L2.St} (s : Sr W α F S H) (er : EnvR W α F S.length ρ σ) (r : VlR W α F S.length x v) (p : PostS W Es α F S H (match bindT t x ρ with | some ρ => .nx ρ S | none => .bad) D) : gD W t v σ H D.nx := by
  cases hb : bindT t x ρ with
  | none => rw [hb] at p; exact p.elim
  | some ρ' =>
    rw [hb] at p
    exact ⟨α, F, S, x, ρ, ρ', s, er, r, hb, fun σ' st => p.here s st.env⟩
theorem ds_asg {t : Tg} (hl : PySem.swapsWithSole [tg] a pos.line X.env = pure false) (hw : swappedStores [tg] a X.env = pure none) (hn : notStar tg = true) (ha : PE X a (tD W Es fa)) (hg : PG X tg (gD W t)) : PS X (.Assign [tg] a pos) (tDS W Es (asgF t fa)) :=
  psI (ps_asg ha hg hl hw (by rw [asg_cons hn]; rfl)) fun D σ H ⟨α, F, ρ, S, s, er, p⟩ =>
    ⟨α, F, ρ, S, s, er, (Post.thn er (Rel := VlX W) p).imp fun v H1 ⟨α1, F1, x, S1, x1, s1, r1, p1⟩ => asg_go s1 (er.ext x1) r1 p1⟩
/-- x = [..] -/
theorem ds_asgLc {iter elt : Expr} {ifs : List Expr} {scope : Scope} {own : List (Str × Nat)} {cell : Bool} {t : Tg} {fi : Env → Sto → Res (List Vl × Option (Nat × Cell))} {fcond : Env → Sto → Res Bool} {fe : Env → Sto → Res Vl} {i : Nat} {n : Str} {py pos' : Pos}
    (hc : X.calm = true) (hN : X.N.Nodup) (hy : X.N[i]? = some n) (hyl : X.env.scope.names.lookup n = some .local) (hsw : swapsWith (.ListComp elt [⟨tg, iter, ifs, 0⟩] scope pos) (some (.Name n py)) pos'.line X.env = pure true)
    (hi : PI X tg iter (tDI W Es fi)) (ok : BlkOk X.N X.env.scope scope own)
    (hg : ∀ (s : Shared) (H : Hp) (C : Addr) (cl : List (Str × Addr)) (fp : List Addr), PG (X.blk s H scope (compEnvC scope cl C X.env) fp) tg (gD W t))
    (ht : ∀ (s : Shared) (H : Hp) (C : Addr) (cl : List (Str × Addr)) (fp : List Addr), PTs (X.blk s H scope (compEnvC scope cl C X.env) fp) ifs (tDT W Es0 fcond))
    (he : ∀ (s : Shared) (H : Hp) (C : Addr) (cl : List (Str × Addr)) (fp : List Addr), PE (X.blk s H scope (compEnvC scope cl C X.env) fp) elt (tD W Es0 fe))
    (hs : ∀ x, foldedSetIterable iter X.env x = pure x) (hsub : ∀ i ∈ t.slots, i ∈ own.map (·.2)) :
    PS X (.Assign [.Name n py] (.ListComp elt [⟨tg, iter, ifs, 0⟩] scope pos) pos') (tDS W Es (asgF (.var i) (lcAll cell t (own.map (·.2)) fi fcond fe))) :=
  psI (ps_setLc hc hN hy hyl hsw hi ok hg ht he hs) fun D σ H ⟨α, F, ρ, S, s, er, p⟩ => lc_read hsub ⟨α, F, ρ, S, s, er, (Post.thn er (Rel := VlX W) p).imp fun v H1 ⟨α1, F1, x, S1, x1, s1, r1, p1⟩ => p1.here s1 ((er.ext x1).set r1 i)⟩

/-! ### stores -/
def subF (fo fi fe : Env → Sto → Res Vl) : Env → Sto → RS := fun ρ S => (fe ρ S).thn ρ fun v S => (fo ρ S).thn ρ fun x S => (fi ρ S).thn ρ fun k S => match setItem x k v S with
    | some S => .nx ρ S
    | none => .bad
theorem VlRs.setI {xs : List Vl} {vs : List V} {N : Nat} (r : VlRs W α F N xs vs) (q : VlR W α F N x v) (i : Nat) : VlRs W α F N (xs.set i x) (vs.set i v) := r.set q i
theorem set_plain {o i : Expr} {p1 : Pos} (h : isSl i = false) {env : PySem.Env} (v : Value) : assign (.Subscript o i p1) env v = (do
      let ov ← holding [v] (eval o env)
      let iv ← holding [v, ov] (eval i env)
      standAt p1
      holding [v, ov, iv] (PySem.setItem ov iv v)
      release [v, ov, iv] []) := by
  cases i <;> first | rfl | (simp [isSl] at h)
theorem set_dct (hu : X.A.units + 100 < cLine) : PSet X (fun o i v H Q => ∃ a H', o = .ref a ∧ DPut H a i v H' ∧ Q H') := by
  intro pins s σ H o i v ov iv u Q I ro ri rv h
  obtain ⟨a, H', rfl, g, q⟩ := h
  obtain rfl : ov = Value.ref a := ro
  exact d_setItem (by omega) I g ri rv fun s' I' => ⟨H', I', q⟩
theorem psetOr {t t' : TSet} (h : PSet X t) (h' : PSet X t') : PSet X (fun o i v H Q => t o i v H Q ∨ t' o i v H Q) := fun pins s σ H o i v ov iv u Q I ro ri rv q => q.elim (h pins s σ H o i v ov iv u Q I ro ri rv) (h' pins s σ H o i v ov iv u Q I ro ri rv)
theorem ds_sub (hu : X.A.units + 100 < cLine) {o i : Expr} {p1 : Pos} {fo fi fe : Env → Sto → Res Vl} (hl : isLc e = false) (hsl : isSl i = false) (ho : PE X o (tD W Es fo)) (hi : PE X i (tD W Es fi)) (he : PE X e (tD W Es fe)) : PS X (.Assign [.Subscript o i p1] e pos) (tDS W Es (subF fo fi fe)) := by
  refine psI (ps_asg he (pg_sub ho hi (psetOr set_list (set_dct hu)) fun v => set_plain hsl v) (swS_not hl)) fun D σ H ⟨α, F, ρ, S, s, er, p⟩ =>
    ⟨α, F, ρ, S, s, er, (Post.thn er (Rel := VlX W) p).imp fun v H1 ⟨α1, F1, x, S1, x1, s1, r1, p1⟩ => ⟨α1, F1, ρ, S1, s1, er.ext x1, (Post.thn (er.ext x1) (Rel := VlX W) p1).imp fun o H2 ⟨α2, F2, y, S2, x2, s2, r2, p2⟩ =>
      ⟨α2, F2, ρ, S2, s2, (er.ext x1).ext x2, (Post.thn ((er.ext x1).ext x2) (Rel := VlX W) p2).imp fun k H3 ⟨α3, F3, z, S3, x3, s3, r3, p3⟩ => ?_⟩⟩⟩
  have r1 := r1.ext (x2.trans x3)
  have r2 := r2.ext x3
  have er3 := ((er.ext x1).ext x2).ext x3
  cases y with
  | d y => exact p3.elim
  | p n =>
    cases z with
    | p m => exact p3.elim
    | d z =>
      obtain ⟨rfl, hlt⟩ := (show o = .ref (α3 n) ∧ n < S3.length from r2)
      dsimp only [setItem] at p3
      cases hn : S3[n]? with
      | none => rw [hn] at p3; exact p3.elim
      | some c =>
        rw [hn] at p3
        cases c with
        | lst xs =>
          cases z with
          | int j =>
            simp only at p3
            cases hj : ixN xs.length j with
            | none => rw [hj] at p3; exact p3.elim
            | some jj =>
              rw [hj] at p3
              obtain ⟨vs, hv, rr⟩ := s3.cel n _ hn
              obtain ⟨s', x'⟩ := s3.setC (n := n) (o := .lst (vs.set jj v)) (c := .lst (xs.set jj x)) ⟨_, hn, fun z => nomatch z⟩ ⟨_, upd_same, rr.set r1 jj⟩
              exact .inl ⟨α3 n, vs, j, jj, rfl, r3, hv, by rw [← rr.length]; exact hj, p3 σ α3 F3 _ x' s' (er3.ext x')⟩
          | _ => exact p3.elim
        | dct t kvs =>
          simp only at p3
          by_cases hk : (keyOk t z && decide (kvs.length < most)) = true
          · rw [if_pos hk] at p3
            rw [Bool.and_eq_true] at hk
            obtain ⟨ws, hd, rr⟩ := s3.cel n _ hn
            obtain ⟨o', ws', g, hd', rr'⟩ := dput_of hd rr hk.1 r3 s3.sub r1 (of_decide_eq_true hk.2)
            obtain ⟨s', x'⟩ := s3.setC (n := n) (o := o') (c := .dct t (kvPut kvs z x)) ⟨_, hn, fun z => nomatch z⟩ ⟨ws', hd', rr'⟩
            exact .inr ⟨α3 n, _, rfl, g, p3 σ α3 F3 _ x' s' (er3.ext x')⟩
          · rw [if_neg hk] at p3
            exact p3.elim
        | _ => exact p3.elim
theorem in_aug {op : Operator} {o : Op} (ho : cOp op = some o) : ∃ ti : TIp, PIp X op ti ∧ ∀ {E : XK} {α F S H x y v u} {Q : VK}, Sr W α F S H → VlR W α F S.length x v → VlR W α F S.length y u → Post W E (VlX W) α F S H (augop o x y S) Q → ti v u H Q := by
  cases op <;> simp [cOp] at ho <;> subst ho
  · refine ⟨_, (iop_add (X := X)).or (iop_add_str (X := X)), fun {E α F S H x y v u Q} s rx ry p => ?_⟩
    cases x with
    | p n => exact p.elim
    | d x =>
      cases x with
      | int i =>
        cases y with
        | p n => exact p.elim
        | d y =>
          cases y with
          | int j => exact .inl ⟨i, j, rx, ry, p.here s rfl⟩
          | _ => exact p.elim
      | str i =>
        cases y with
        | p n => exact p.elim
        | d y =>
          cases y with
          | str j =>
            have p : Post W E (VlX W) α F S H (if decide (i.length + j.length ≤ most) then .ok (.d (.str (i ++ j))) S else .bad) Q := p
            by_cases hz : i.length + j.length ≤ most
            · rw [if_pos (by simpa using hz)] at p
              refine .inr ⟨_, _, rx, ry, by rw [str_len, str_len, ← most_eq]; exact hz, ?_⟩
              rw [str_app]
              exact p.here s rfl
            · rw [if_neg (by simpa using hz)] at p
              exact p.elim
          | _ => exact p.elim
      | _ => exact p.elim
  · exact ⟨_, iop_sub (X := X), fun s rx ry p => by
      obtain ⟨i, j, e1, e2, _, q⟩ := bin_int (C := fun _ _ => True) (fun _ _ _ => trivial) s rx ry p
      exact ⟨i, j, e1, e2, q⟩⟩
  · exact ⟨_, iop_mul (X := X), fun s rx ry p => bin_int (fun _ _ h => cMul_iff.mp h) s rx ry p⟩
  · exact ⟨_, iop_mod (X := X), fun s rx ry p => bin_int (fun _ _ h => of_decide_eq_true h) s rx ry p⟩
  · exact ⟨fun _ _ _ _ => False, fun _ _ _ _ _ _ _ _ _ _ _ _ q => q.elim, fun s rx ry p => p⟩
  · exact ⟨_, iop_shl (X := X), fun s rx ry p => bin_int (fun _ _ h => cPow_iff.mp h) s rx ry p⟩
  · exact ⟨_, iop_fdiv (X := X), fun s rx ry p => bin_int (fun i j h => by
      rw [Bool.and_eq_true] at h
      exact ⟨of_decide_eq_true h.1, of_decide_eq_true h.2⟩) s rx ry p⟩
def augF (i : Nat) (o : Op) (fe : Env → Sto → Res Vl) : Env → Sto → RS := fun ρ S => (pick ((ρ[i]?).bind id) S).thn ρ fun x S => (fe ρ S).thn ρ fun y S => (augop o x y S).thn ρ fun z S => .nx (ρ.set i (some z)) S
theorem ds_aug {op : Operator} {o : Op} {i : Nat} {n : Str} {p1 : Pos} {fe : Env → Sto → Res Vl} (ho : cOp op = some o) (hN : X.N.Nodup) (hi : X.N[i]? = some n) (hx : Loc X.env.scope n) (hf : X.fn n = true ∨ X.env.scope.names.lookup n = some .local) (he : PE X e (tD W Es fe)) :
    PS X (.AugAssign (.Name n p1) op e pos) (tDS W Es (augF i o fe)) := by
  obtain ⟨ti, h1, h2⟩ := in_aug (X := X) (W := W) ho
  refine psI (ps_aug hN hi hx he h1 hf) fun D σ H ⟨α, F, ρ, S, s, er, p⟩ => ?_
  have p : PostS W Es α F S H ((pick ((ρ[i]?).bind id) S).thn ρ fun x S => (fe ρ S).thn ρ fun y S => (augop o x y S).thn ρ fun z S => .nx (ρ.set i (some z)) S) D := p
  cases q : (ρ[i]?).bind id with
  | none => rw [q] at p; exact p.elim
  | some x =>
    rw [q] at p
    have q' : ρ[i]? = some (some x) := by
      cases z : ρ[i]? with
      | none => rw [z] at q; cases q
      | some o => rw [z] at q; exact congrArg some q
    obtain ⟨w, ew, r⟩ := er.at_ i x q'
    have p : PostS W Es α F S H ((fe ρ S).thn ρ fun y S => (augop o x y S).thn ρ fun z S => .nx (ρ.set i (some z)) S) D := p
    refine ⟨w, ew, α, F, ρ, S, s, er, (Post.thn er (Rel := VlX W) p).imp fun u H1 ⟨α1, F1, y, S1, x1, s1, r1, p1⟩ => h2 s1 (r.ext x1) r1 ((Post.thn (er.ext x1) (Rel := VlX W) p1).imp fun z H2 ⟨α2, F2, zz, S2, x2, s2, r2, p2⟩ => ?_)⟩
    exact p2.here s2 (((er.ext x1).ext x2).set r2 i)

/-! ### branches, loops -/
def ifF (fc : Env → Sto → Res Vl) (g h : Env → Sto → RS) : Env → Sto → RS := fun ρ S => (fc ρ S).thn ρ fun x S => (tru x S).thn ρ fun k S => if k then g ρ S else h ρ S
theorem thn_tru {r : Res Vl} {ρ : Env} {g : Bool → Sto → RS} : (r.thn ρ fun x S => (tru x S).thn ρ g) = (r.bind tru).thn ρ g := by
  cases r <;> rfl
theorem ds_if {as bs : List Stmt} (hc : PT X c (tDT W Es fun ρ S => (fc ρ S).bind tru)) (ha : PSs X as (tDS W Es g)) (hb : PSs X bs (tDS W Es h)) : PS X (.If c as bs pos) (tDS W Es (ifF fc g h)) := by
  refine psI (ps_if hc ha hb) fun D σ H ⟨α, F, ρ, S, s, er, p⟩ => ?_
  have p : PostS W Es α F S H ((fc ρ S).thn ρ fun x S => (tru x S).thn ρ fun k S => if k then g ρ S else h ρ S) D := p
  rw [thn_tru] at p
  refine ⟨α, F, ρ, S, s, er, (Post.thn er (Rel := RelE) p).imp fun k H1 ⟨α1, F1, k', S1, x1, s1, r1, p1⟩ => ?_⟩
  cases (show k' = k from r1)
  cases k with
  | true => exact ⟨α1, F1, ρ, S1, s1, er.ext x1, p1⟩
  | false => exact ⟨α1, F1, ρ, S1, s1, er.ext x1, p1⟩
theorem ds_while {fuel : Nat} {bs : List Stmt} (hp : PassesOwn (model X.prog X.w) X.A X.env X.xe) (hc : PT X c (tDT W Es fun ρ S => (fc ρ S).bind tru)) (hb : PSs X bs (tDS W Es g)) : PS X (.While c bs [] pos) (tDS W Es fun ρ S => whl (fun ρ S => (fc ρ S).bind tru) g fuel ρ S) := by
  refine psI (ps_while hp hc hb) fun D σ H ⟨α, F, ρ, S, s, er, p⟩ => ?_
  have p : PostS W Es α F S H (whl (fun ρ S => (fc ρ S).bind tru) g fuel ρ S) D := p
  generalize hfull : whl (fun ρ S => (fc ρ S).bind tru) g fuel ρ S = full at p
  refine ⟨fun m σ' H' => ∃ αc Fc ρc Sc, Ext α F S H αc Fc Sc H' ∧ Sr W αc Fc Sc H' ∧ EnvR W αc Fc Sc.length ρc σ' ∧ whl (fun ρ S => (fc ρ S).bind tru) g m ρc Sc = full, ⟨fuel, α, F, ρ, S, Ext.refl, s, er, hfull⟩, ?_⟩
  rintro m σ' H' ⟨αc, Fc, ρc, Sc, x1, s1, er1, hf⟩
  have p1 : PostS W Es αc Fc Sc H' full D := PostS.rebase x1 p
  cases m with
  | zero => rw [← hf] at p1; exact p1.elim
  | succ m =>
    rw [← hf] at p1
    unfold whl at p1
    refine ⟨αc, Fc, ρc, Sc, s1, er1, ?_⟩
    show Post W (Es σ') RelE αc Fc Sc H' ((fc ρc Sc).bind tru) _
    cases hcd : (fc ρc Sc).bind tru with
    | bad => rw [hcd] at p1; exact p1.elim
    | exc ee S' => rw [hcd] at p1; exact fun c d α2 F2 H2 x2 s2 q2 => p1 σ' c d α2 F2 H2 x2 s2 (er1.ext x2) q2
    | ok k S2 =>
      rw [hcd] at p1
      show ∀ _ _ _ _, _
      intro k' α2 F2 H2 x2 s2 ek
      cases (show k = k' from ek)
      have p2 : PostS W Es α2 F2 S2 H2 (if k = true then (match g ρc S2 with
        | .nx ρ S => whl (fun ρ S => (fc ρ S).bind tru) g m ρ S
        | .ct ρ S => whl (fun ρ S => (fc ρ S).bind tru) g m ρ S
        | .bk ρ S => .nx ρ S
        | r => r) else .nx ρc S2) D := PostS.rebase x2 p1
      unfold whl at hf
      rw [hcd] at hf
      have er2 := er1.ext x2
      cases k with
      | false =>
        rw [if_neg Bool.false_ne_true]
        rw [if_neg Bool.false_ne_true] at p2
        exact p2.here s2 er2
      | true =>
        rw [if_pos rfl]
        rw [if_pos rfl] at p2
        have hf : (match g ρc S2 with
          | .nx ρ S => whl (fun ρ S => (fc ρ S).bind tru) g m ρ S
          | .ct ρ S => whl (fun ρ S => (fc ρ S).bind tru) g m ρ S
          | .bk ρ S => .nx ρ S
          | r => r) = full := hf
        refine ⟨fun σ' H' => ∃ αc Fc ρc Sc, Ext α F S H αc Fc Sc H' ∧ Sr W αc Fc Sc H' ∧ EnvR W αc Fc Sc.length ρc σ' ∧ whl (fun ρ S => (fc ρ S).bind tru) g m ρc Sc = full, fun σ' H' w => ⟨m, Nat.lt_succ_self _, w⟩, α2, F2, ρc, S2, s2, er2, ?_⟩
        cases hg : g ρc S2 with
        | nx ρ3 S3 =>
          rw [hg] at hf
          exact fun σ3 α3 F3 H3 x3 s3 er3 => ⟨α3, F3, ρ3, S3, (x1.trans x2).trans x3, s3, er3, hf⟩
        | ct ρ3 S3 =>
          rw [hg] at hf
          exact fun σ3 α3 F3 H3 x3 s3 er3 => ⟨α3, F3, ρ3, S3, (x1.trans x2).trans x3, s3, er3, hf⟩
        | bk ρ3 S3 => rw [hg] at p2; exact p2
        | rt v S3 => rw [hg] at p2; exact p2
        | exc ee ρ3 S3 => rw [hg] at p2; exact p2
        | bad => rw [hg] at p2; exact p2.elim
def forF (t : Tg) (fi : Env → Sto → Res (List Vl × Option (Nat × Cell))) (g : Env → Sto → RS) : Env → Sto → RS := fun ρ S => (fi ρ S).thn ρ fun q S => (fors g t q.1 ρ (lock S q.2)).mapS fun S => unlock S q.2
theorem ds_for {iter : Expr} {bs : List Stmt} {t : Tg} {fi : Env → Sto → Res (List Vl × Option (Nat × Cell))} (hp : PassesOwn (model X.prog X.w) X.A X.env X.xe) (hc : X.calm = true) (hi : PI X tg iter (tDI W Es fi)) (hg : PG X tg (gD W t)) (hb : PSs X bs (tDS W Es g))
    (hs : ∀ x, foldedSetIterable iter X.env x = pure x) : PS X (.For tg iter bs [] pos) (tDS W Es (forF t fi g)) := by
  refine psI (ps_for hp hc hi hg hb hs) fun D σ H ⟨α, F, ρ, S, s, er, p⟩ => ⟨α, F, ρ, S, s, er, (Post.thn er (Rel := WalkR W) p).imp fun J H1 ⟨α1, F1, q, S1, x1, s1, ⟨wk, lkok⟩, p1⟩ => ?_⟩
  obtain ⟨xs, lk⟩ := q
  dsimp only at wk lkok p1
  have s1l : Sr W α1 F1 (lock S1 lk) H1 := lock_sr s1 fun n c h => (lkok n c h).1
  have e1 : EnvR W α1 F1 (lock S1 lk).length ρ σ := by rw [lock_len]; exact er.ext x1
  have ulen : ∀ (S : Sto), (unlock S lk).length = S.length := fun S => by cases lk <;> simp [unlock]
  generalize hfull : fors g t xs ρ (lock S1 lk) = full at p1
  -- what the loop's ends mean once the lock is gone
  have outN : ∀ {ρ' S' σ' α' F' H'}, full = .nx ρ' S' → Ext α1 F1 (lock S1 lk) H1 α' F' S' H' → Sr W α' F' S' H' → EnvR W α' F' S'.length ρ' σ' → D.nx σ' H' := fun {ρ' S' σ' α' F' H'} e x s' er' => by
    rw [e] at p1
    obtain ⟨s6, x6⟩ := unlock_opt s1 lkok x s'
    exact p1 σ' α' F' H' x6 s6 (by rw [ulen]; exact er')
  refine ⟨fun i m σ' H' => m = xs.length - i ∧ i ≤ xs.length ∧ ∃ αc Fc ρc Sc, Ext α1 F1 (lock S1 lk) H1 αc Fc Sc H' ∧ Sr W αc Fc Sc H' ∧ EnvR W αc Fc Sc.length ρc σ' ∧ fors g t (xs.drop i) ρc Sc = full,
    ⟨xs.length, rfl, Nat.zero_le _, α1, F1, ρ, lock S1 lk, Ext.refl, s1l, e1, hfull⟩, ?_⟩
  rintro i m σ' H' ⟨rfl, hi', αc, Fc, ρc, Sc, x2, s2, er2, hf2⟩
  by_cases hlt : i < xs.length
  · have hx : xs[i]? = some xs[i] := List.getElem?_eq_getElem hlt
    obtain ⟨go, yl⟩ := wk.turn i xs[i] hx αc Fc Sc H' x2 s2
    rw [List.drop_eq_getElem_cons hlt] at hf2
    unfold fors at hf2
    refine .inr ⟨go, fun σ'' H'' => xs.length - (i + 1) = xs.length - (i + 1) ∧ i + 1 ≤ xs.length ∧ ∃ αc Fc ρc Sc, Ext α1 F1 (lock S1 lk) H1 αc Fc Sc H'' ∧ Sr W αc Fc Sc H'' ∧ EnvR W αc Fc Sc.length ρc σ'' ∧ fors g t (xs.drop (i + 1)) ρc Sc = full, fun σ'' H'' w => ⟨_, by omega, w⟩, fun v H2 y => ?_⟩
    obtain ⟨F2, x3, s3, r3⟩ := yl v H2 y
    have e3 := er2.ext x3
    cases hb : bindT t xs[i] ρc with
    | none =>
      rw [hb] at hf2
      rw [← hf2] at p1
      exact p1.elim
    | some ρ' =>
      rw [hb] at hf2
      simp only at hf2
      refine ⟨αc, F2, Sc, xs[i], ρc, ρ', s3, e3, r3, hb, fun σ'' st => ⟨αc, F2, ρ', Sc, s3, st.env, ?_⟩⟩
      have x23 := x2.trans x3
      cases hgg : g ρ' Sc with
      | nx ρ3 S3 =>
        rw [hgg] at hf2
        exact fun σ3 α3 F3 H3 x4 s4 er4 => ⟨rfl, hlt, α3, F3, ρ3, S3, x23.trans x4, s4, er4, hf2⟩
      | ct ρ3 S3 =>
        rw [hgg] at hf2
        exact fun σ3 α3 F3 H3 x4 s4 er4 => ⟨rfl, hlt, α3, F3, ρ3, S3, x23.trans x4, s4, er4, hf2⟩
      | bk ρ3 S3 =>
        rw [hgg] at hf2
        exact fun σ3 α3 F3 H3 x4 s4 er4 => outN hf2.symm (x23.trans x4) s4 er4
      | rt v S3 =>
        rw [hgg] at hf2
        intro w α3 F3 H3 x4 s4 r4
        rw [← hf2] at p1
        obtain ⟨s6, x6⟩ := unlock_opt s1 lkok (x23.trans x4) s4
        exact p1 w α3 F3 H3 x6 s6 (by rw [ulen]; exact r4)
      | exc ee ρ3 S3 =>
        rw [hgg] at hf2
        intro σ3 c d α3 F3 H3 x4 s4 er4 r4
        rw [← hf2] at p1
        obtain ⟨s6, x6⟩ := unlock_opt s1 lkok (x23.trans x4) s4
        exact p1 σ3 c d α3 F3 H3 x6 s6 (by rw [ulen]; exact er4) r4
      | bad =>
        rw [hgg] at hf2
        rw [← hf2] at p1
        exact p1.elim
  · have hi2 : i = xs.length := by omega
    subst hi2
    rw [List.drop_length] at hf2
    unfold fors at hf2
    exact .inl ⟨wk.done αc Fc Sc H' x2 s2, outN hf2.symm x2 s2 er2⟩
/-- cells become data -/
def frzF (is : List Nat) (f : Env → Sto → RS) : Env → Sto → RS := fun ρ S => match frz is ρ S with
    | some (ρ, S) => f ρ S
    | none => .bad
theorem frz_read {H : Hp} {σ : L2.St} : ∀ (is : List Nat) {α F ρ S}, Sr W α F S H → EnvR W α F S.length ρ σ → ∀ {ρ' S'}, frz is ρ S = some (ρ', S') → ∃ F', Ext α F S H α F' S' H ∧ Sr W α F' S' H ∧ EnvR W α F' S'.length ρ' σ
  | [], α, F, ρ, S, s, er, ρ', S', h => by
    simp only [frz, Option.some.injEq, Prod.mk.injEq] at h
    obtain ⟨rfl, rfl⟩ := h
    exact ⟨F, Ext.refl, s, er⟩
  | i :: is, α, F, ρ, S, s, er, ρ', S', h => by
    unfold frz at h
    cases q : (ρ[i]?).bind id with
    | none => rw [q] at h; exact frz_read is s er h
    | some v =>
      rw [q] at h
      have q' : ρ[i]? = some (some v) := by
        cases z : ρ[i]? with
        | none => rw [z] at q; cases q
        | some o => rw [z] at q; exact congrArg some q
      obtain ⟨w, ew, r⟩ := er.at_ i v q'
      dsimp only at h
      have setv : ∀ {F1 S1 d}, Ext α F S H α F1 S1 H → Rp W F1 d w → EnvR W α F1 S1.length (ρ.set i (some (.d d))) σ := fun {F1 S1 d} x rp => by
        have := EnvR.set (v := .d d) (w := w) (er.ext x) rp i
        have e : σ.set i (some w) = σ := by
          apply List.ext_getElem?
          intro j
          by_cases hij : i = j
          · subst hij
            rw [List.getElem?_set_self (List.getElem?_eq_some_iff.mp ew).1, ew]
          · rw [List.getElem?_set_ne hij]
        rw [e] at this
        exact this
      cases hf : freeze v S with
      | none => rw [hf] at h; cases h
      | some q2 =>
        obtain ⟨d, S1⟩ := q2
        rw [hf] at h
        obtain ⟨F1, s1, x1, rp⟩ := s.freeze r hf
        obtain ⟨F2, x2, s2, e2⟩ := frz_read is s1 (setv x1 rp) h
        exact ⟨F2, x1.trans x2, s2, e2⟩
theorem ds_frz {is : List Nat} (h : PS X st (tDS W Es g)) : PS X st (tDS W Es (frzF is g)) := psI h fun D σ H ⟨α, F, ρ, S, s, er, p⟩ => by
  unfold frzF at p
  cases hq : frz is ρ S with
  | none => rw [hq] at p; exact p.elim
  | some q =>
    obtain ⟨ρ', S'⟩ := q
    rw [hq] at p
    obtain ⟨F', x, s', er'⟩ := frz_read is s er hq
    exact ⟨α, F', ρ', S', s', er', PostS.rebase x p⟩
/-! ### fields stored, d[k] op= e, x, y = a, b, x = {..: ..} -/
def sfldF (k : Nat) (cs : List Nat) (fo fe : Env → Sto → Res Vl) : Env → Sto → RS := fun ρ S => (fe ρ S).thn ρ fun v S => (fo ρ S).thn ρ fun x S => match setField x v k cs S with
    | some S => .nx ρ S
    | none => .bad
theorem setField_of {f : Str} {k : Nat} {cs : List Nat} (ok : FldOk X.K W f k cs) (s : Sr W α F S H) {ρ : Env} {σ : L2.St} {D : Ends} (er : EnvR W α F S.length ρ σ) (rx : VlR W α F S.length x v) (ry : VlR W α F S.length y u) (p : PostS W Es α F S H (match setField x y k cs S with | some S => .nx ρ S | none => .bad) D) :
    ∃ a c dx fs, c ∈ cs ∧ v = .ref a ∧ H a = some (.ins (W.ca c) dx fs) ∧ Cls X.K (W.ca c) ∧ NoAttr X.K (W.ca c) f ∧ fs.length < 1000 ∧ D.nx σ (upd H a (.ins (W.ca c) dx (putF f u fs))) := by
  cases x with
  | d x => exact p.elim
  | p n =>
    obtain ⟨ev, hl⟩ := (show v = .ref (α n) ∧ n < S.length from rx)
    simp only [setField] at p
    cases hn : S[n]? with
    | none => rw [hn] at p; exact p.elim
    | some c =>
      rw [hn] at p
      cases c with
      | ins c fs =>
        simp only at p
        by_cases hz : (cs.contains c && decide (fs.length < 1000)) = true
        · rw [if_pos hz] at p
          rw [Bool.and_eq_true] at hz
          obtain ⟨c1, c2⟩ := ok.cl c (by simpa using hz.1)
          obtain ⟨dx, us, ho, rr⟩ := s.cel n _ hn
          obtain ⟨us', h1, h2⟩ := kwPut_rel ok.inj k ry rr
          rw [ok.nm] at h1
          obtain ⟨s', x'⟩ := s.setC (n := n) (o := .ins (W.ca c) dx (putF f u ((fs.map fun p => W.nm p.1).zip us))) (c := .ins c (kwPut fs k y)) ⟨_, hn, fun z => nomatch z⟩ ⟨dx, us', by rw [upd_same, h1], h2⟩
          refine ⟨_, c, dx, _, by simpa using hz.1, ev, ho, c1, c2, ?_, p σ α F _ x' s' (er.ext x')⟩
          have := rr.length
          simp only [List.length_zip, List.length_map] at this ⊢
          have := of_decide_eq_true hz.2
          omega
        · rw [if_neg hz] at p; exact p.elim
      | _ => exact p.elim
theorem ds_fld {o : Expr} {f : Str} {k : Nat} {cs : List Nat} {p1 : Pos} {fo fe : Env → Sto → Res Vl} (ok : FldOk X.K W f k cs) (hl : isLc e = false) (ho : PE X o (tD W Es fo)) (he : PE X e (tD W Es fe)) : PS X (.Assign [.Attribute o f p1] e pos) (tDS W Es (sfldF k cs fo fe)) :=
  psI (ps_fld ho he (sw_not hl)) fun D σ H ⟨α, F, ρ, S, s, er, p⟩ => ⟨α, F, ρ, S, s, er, (Post.thn er (Rel := VlX W) p).imp fun v H1 ⟨α1, F1, x, S1, x1, s1, r1, p1⟩ =>
    ⟨α1, F1, ρ, S1, s1, er.ext x1, (Post.thn (er.ext x1) (Rel := VlX W) p1).imp fun o H2 ⟨α2, F2, y, S2, x2, s2, r2, p2⟩ => by
      obtain ⟨a, c, dx, fs, _, h⟩ := setField_of ok s2 ((er.ext x1).ext x2) r2 (r1.ext x2) p2
      exact ⟨a, _, dx, fs, h⟩⟩⟩
theorem augop_ok (o : Op) (x y : Vl) (S : Sto) : augop o x y S = .bad ∨ ∃ d, augop o x y S = .ok (.d d) S := by
  have i : ∀ C g, opI C g x y S = .bad ∨ ∃ d, opI C g x y S = .ok (.d d) S := fun C g => by
    unfold opI
    repeat' split
    all_goals first | exact .inl rfl | exact .inr ⟨_, rfl⟩
  cases o with
  | add =>
    unfold augop
    repeat' split
    all_goals first | exact .inl rfl | exact .inr ⟨_, rfl⟩ | contradiction
  | pow => exact .inl rfl
  | _ => exact i _ _
def fldaugF (k : Nat) (cs : List Nat) (o : Op) (fo fe : Env → Sto → Res Vl) : Env → Sto → RS := fun ρ S => (fo ρ S).thn ρ fun x S => (field x k cs S).thn ρ fun u S => (fe ρ S).thn ρ fun y S => (augop o u y S).thn ρ fun z S => match setField x z k cs S with
    | some S => .nx ρ S
    | none => .bad
theorem field_thn {k : Nat} {cs : List Nat} {g : Vl → Sto → RS} {ρ : Env} {D : Ends} (p : PostS W Es α F S H ((field x k cs S).thn ρ g) D) : ∃ z, field x k cs S = .ok z S ∧ PostS W Es α F S H (g z S) D := by
  have : field x k cs S = .bad ∨ ∃ z, field x k cs S = .ok z S := by
    unfold field
    repeat' split
    all_goals first | exact .inl rfl | exact .inr ⟨_, rfl⟩
  rcases this with e | ⟨z, e⟩
  · rw [e] at p; exact p.elim
  · rw [e] at p; exact ⟨z, e, p⟩
theorem ds_fldaug {op : Operator} {o : Expr} {b : Op} {f : Str} {k c0 : Nat} {p1 : Pos} {fo fe : Env → Sto → Res Vl} (ok : FldOk X.K W f k [c0]) (hop : cOp op = some b) (ho : PE X o (tD W Es fo)) (he : PE X e (tD W Es fe)) : PS X (.AugAssign (.Attribute o f p1) op e pos) (tDS W Es (fldaugF k [c0] b fo fe)) := by
  obtain ⟨ti, h1, h2⟩ := in_aug (X := X) (W := W) hop
  refine psI (ps_fldaug ho he (rd := ti) h1) fun D σ H ⟨α, F, ρ, S, s, er, p⟩ => ⟨α, F, ρ, S, s, er, (Post.thn er (Rel := VlX W) p).imp fun v H1 ⟨α1, F1, x, S1, x1, s1, r1, p1⟩ => ?_⟩
  obtain ⟨uu, hu, p1⟩ := field_thn p1
  obtain ⟨_, a, c, dx, fs, w, hc, e1, q1, q2, q3⟩ := field_at ok s1 r1 hu
  obtain ⟨c1, c2⟩ := ok.cl c hc
  refine ⟨a, _, dx, fs, w, e1, q1, c1, c2, q2, α1, F1, ρ, S1, s1, er.ext x1, (Post.thn (er.ext x1) (Rel := VlX W) p1).imp fun y H2 ⟨α2, F2, yy, S2, x2, s2, r2, p2⟩ => ?_⟩
  refine h2 s2 (q3.ext x2) r2 ((Post.thn ((er.ext x1).ext x2) (Rel := VlX W) p2).imp fun z H3 ⟨α3, F3, zz, S3, x3, s3, r3, p3⟩ => ?_)
  obtain ⟨a', c', dx', fs', hc', e2, t1, t2, t3, t4, t5⟩ := setField_of ok s3 (((er.ext x1).ext x2).ext x3) ((r1.ext x2).ext x3) r3 p3
  rw [e1] at e2
  cases e2
  have ec : c' = c := by rw [List.mem_singleton.mp hc', List.mem_singleton.mp hc]
  subst ec
  exact ⟨dx', fs', t1, t4, t5⟩
def parF (i j : Nat) (fa fb : Env → Sto → Res Vl) : Env → Sto → RS := fun ρ S => (fa ρ S).thn ρ fun v S => (fb ρ S).thn ρ fun w S => .nx ((ρ.set i (some v)).set j (some w)) S
theorem ds_par {i j : Nat} {n m : Str} {px py pt : Pos} {kt k2 : Nat} {pt2 : Pos} (hc : X.calm = true) (hN : X.N.Nodup) (hi : X.N[i]? = some n) (hj : X.N[j]? = some m) (hij : i ≠ j) (hx : X.env.scope.names.lookup n = some .local) (hy : X.env.scope.names.lookup m = some .local)
    (hw : swappedStores [.Tuple [.Name n px, .Name m py] kt pt] (.Tuple [a, b] k2 pt2) X.env = pure (some [n, m])) (hs : notStar a = true) (hs2 : notStar b = true) (ha : PE X a (tD W Es fa)) (hb : PE X b (tD W Es fb)) :
    PS X (.Assign [.Tuple [.Name n px, .Name m py] kt pt] (.Tuple [a, b] k2 pt2) pos) (tDS W Es (parF i j fa fb)) :=
  psI (ps_par hc hN hi hj hij hx hy (da_cons hs ha (da_cons hs2 hb da_nil)) hw) fun D σ H ⟨α, F, ρ, S, s, er, p⟩ => by
    refine ⟨α, F, ρ, S, s, er, ?_⟩
    have p : PostS W Es α F S H ((fa ρ S).thn ρ fun v S => (fb ρ S).thn ρ fun w S => .nx ((ρ.set i (some v)).set j (some w)) S) D := p
    have e : (consF fa (consF fb nilF) ρ S) = (fa ρ S).bind fun v S => (fb ρ S).bind fun w S => .ok [v, w] S := by
      unfold consF
      cases fa ρ S with
      | ok v S1 => simp only [Res.bind]; cases fb ρ S1 <;> rfl
      | _ => rfl
    rw [e]
    cases h1 : fa ρ S with
    | bad => rw [h1] at p; exact p.elim
    | exc ee S' => rw [h1] at p; exact fun c d α2 F2 H2 x2 s2 q2 => p σ c d α2 F2 H2 x2 s2 (er.ext x2) q2
    | ok v S1 =>
      rw [h1] at p
      have p : PostS W Es α F S H ((fb ρ S1).thn ρ fun w S => .nx ((ρ.set i (some v)).set j (some w)) S) D := p
      show Post W (Es σ) (VlXs W) α F S H ((fb ρ S1).bind fun w S => .ok [v, w] S) _
      cases h2 : fb ρ S1 with
      | bad => rw [h2] at p; exact p.elim
      | exc ee S' => rw [h2] at p; exact fun c d α2 F2 H2 x2 s2 q2 => p σ c d α2 F2 H2 x2 s2 (er.ext x2) q2
      | ok w S2 =>
        rw [h2] at p
        intro us α2 F2 H2 x2 s2 rs
        obtain ⟨v', w', rfl, r1, r2⟩ := rs.two
        exact ⟨v', w', rfl, p _ α2 F2 H2 x2 s2 (((er.ext x2).set r1 i).set r2 j)⟩
theorem swap_of {n m : Str} {px py pt : Pos} {kt k2 : Nat} {pt2 : Pos} {env : PySem.Env} (hk : env.scope.kind = .function) (hx : env.scope.names.lookup n = some .local) (hy : env.scope.names.lookup m = some .local) (hne : (n == m) = false) (hl : (px.line == py.line) = true) (hs : notStar a = true) (hs2 : notStar b = true)
    (h1 : [a, b].all (foldedForSure 8) = false) (h2 : [a, b].all (constantsAlone 8) = false) : swappedStores [.Tuple [.Name n px, .Name m py] kt pt] (.Tuple [a, b] k2 pt2) env = pure (some [n, m]) := by
  have kn : env.kindOf n = some .local := hx
  have km : env.kindOf m = some .local := hy
  have hb : env.blockKind = .function := by unfold PySem.Env.blockKind; rw [hk]; rfl
  have st : ∀ c : Expr, notStar c = true → (match c with | .Starred .. => true | _ => false) = false := fun c h => by cases c <;> first | rfl | (simp [notStar] at h)
  have pl : py.line = px.line := (beq_iff_eq.mp hl).symm
  have hne2 : (m == n) = false := by
    cases q : m == n with
    | false => rfl
    | true => rw [beq_iff_eq.mp q] at hne; simp at hne
  unfold swappedStores
  simp [hb, kn, km, h1, h2, st a hs, st b hs2, Expr.pos, pl, List.eraseDups, List.eraseDupsBy, List.eraseDupsBy.loop, hne, hne2]
  intro h
  exfalso
  rcases h with h | h
  · clear st h1 h2
    cases a <;> first | (cases h; done) | (cases hs; done)
  · clear st h1 h2
    cases b <;> first | (cases h; done) | (cases hs2; done)
def daugF (o : Op) (fd fk fe : Env → Sto → Res Vl) : Env → Sto → RS := fun ρ S => (fd ρ S).thn ρ fun x S => (fk ρ S).thn ρ fun i S => (dgetR x i S).thn ρ fun u S => (fe ρ S).thn ρ fun y S => (augop o u y S).thn ρ fun z S => match setItemD x i z S with
    | some S => .nx ρ S
    | none => .bad
theorem dgetR_of (s : Sr W α F S H) (rx : VlR W α F S.length x v) (ry : VlR W α F S.length y u) {g : Vl → Sto → RS} {ρ : Env} {D : Ends} (p : PostS W Es α F S H ((dgetR x y S).thn ρ g) D) : ∃ a z w, v = .ref a ∧ DGet H a u (some w) ∧ VlR W α F S.length z w ∧ PostS W Es α F S H (g z S) D := by
  unfold dgetR at p
  cases y with
  | p n => exact p.elim
  | d k =>
    dsimp only at p
    cases hg : getOf x k S with
    | none => rw [hg] at p; exact p.elim
    | some o =>
      rw [hg] at p
      obtain ⟨a, w, e, g, h⟩ := get_of s rx ry hg
      rcases h with ⟨rfl, rfl⟩ | ⟨z, q, rfl, rfl, hr⟩
      · exact p.elim
      · exact ⟨a, z, q, e, g, hr, p⟩
theorem aug_store {i : Expr} (h : isSl i = false) (ov iv new : Value) : augStore i ov iv new = (do holding [new, ov, iv] (PySem.setItem ov iv new); release [new, ov, iv] []; pure .next) := by
  cases i <;> first | rfl | (simp [isSl] at h)
theorem ds_daug (hu : X.A.units + 100 < cLine) {op : Operator} {b : Op} {o i : Expr} {p1 : Pos} {fo fi fe : Env → Sto → Res Vl} (hsl : isSl i = false) (hop : cOp op = some b) (ho : PE X o (tD W Es fo)) (hi : PE X i (tD W Es fi)) (he : PE X e (tD W Es fe)) : PS X (.AugAssign (.Subscript o i p1) op e pos) (tDS W Es (daugF b fo fi fe)) := by
  obtain ⟨ti, h1, h2⟩ := in_aug (X := X) (W := W) hop
  refine psI (ps_daug (by omega) ho hi he (rd := ti) h1 (aug_store hsl)) fun D σ H ⟨α, F, ρ, S, s, er, p⟩ => ⟨α, F, ρ, S, s, er, (Post.thn er (Rel := VlX W) p).imp fun v H1 ⟨α1, F1, x, S1, x1, s1, r1, p1⟩ =>
    ⟨α1, F1, ρ, S1, s1, er.ext x1, (Post.thn (er.ext x1) (Rel := VlX W) p1).imp fun k H2 ⟨α2, F2, y, S2, x2, s2, r2, p2⟩ => ?_⟩⟩
  obtain ⟨a, z, w, e1, g, rz, p2⟩ := dgetR_of s2 (r1.ext x2) r2 p2
  refine ⟨a, w, e1, g, α2, F2, ρ, S2, s2, (er.ext x1).ext x2, (Post.thn ((er.ext x1).ext x2) (Rel := VlX W) p2).imp fun q H3 ⟨α3, F3, zz, S3, x3, s3, r3, p3⟩ => ?_⟩
  refine h2 s3 (rz.ext x3) r3 ((Post.thn (((er.ext x1).ext x2).ext x3) (Rel := VlX W) p3).imp fun q H4 ⟨α4, F4, z4, S4, x4, s4, r4, p4⟩ => ?_)
  have x24 := x3.trans x4
  have r1 := (r1.ext x2).ext x24
  have r2 := r2.ext x24
  have er4 := ((er.ext x1).ext x2).ext x24
  cases x with
  | d x => exact p4.elim
  | p n =>
    cases y with
    | p m => exact p4.elim
    | d y =>
      obtain ⟨e2, hlt⟩ := (show v = .ref (α4 n) ∧ n < S4.length from r1)
      rw [e1] at e2
      cases e2
      dsimp only [setItemD] at p4
      cases hn : S4[n]? with
      | none => rw [hn] at p4; exact p4.elim
      | some c =>
        rw [hn] at p4
        cases c with
        | dct t kvs =>
          simp only at p4
          by_cases hk : (keyOk t y && decide (kvs.length < most)) = true
          · rw [if_pos hk] at p4
            rw [Bool.and_eq_true] at hk
            obtain ⟨ws, hd, rr⟩ := s4.cel n _ hn
            obtain ⟨o', ws', g', hd', rr'⟩ := dput_of hd rr hk.1 r2 s4.sub r4 (of_decide_eq_true hk.2)
            obtain ⟨s', x'⟩ := s4.setC (n := n) (o := o') (c := .dct t (kvPut kvs y z4)) ⟨_, hn, fun z => nomatch z⟩ ⟨ws', hd', rr'⟩
            exact ⟨_, g', p4 σ α4 F4 _ x' s' (er4.ext x')⟩
          · rw [if_neg hk] at p4
            exact p4.elim
        | _ => exact p4.elim
/-- x = {k: v for ..} -/
theorem ps_setDc {iter ke ve : Expr} {ifs : List Expr} {scope : Scope} {own : List (Str × Nat)} {wi : TI} {g' : TG} {tt : TT} {tk tv : TE} {i : Nat} {n : Str} {py pos' : Pos} (hc : X.calm = true) (hN : X.N.Nodup) (hi : X.N[i]? = some n) (hloc : X.env.scope.names.lookup n = some .local)
    (hsw : swapsWith (.DictComp ke ve [⟨tg, iter, ifs, 0⟩] scope pos) (some (.Name n py)) pos'.line X.env = pure true) (hit : PI X tg iter wi) (ok : BlkOk X.N X.env.scope scope own)
    (hg : ∀ (s : Shared) (H : Hp) (C : Addr) (cl : List (Str × Addr)) (fp : List Addr), PG (X.blk s H scope (compEnvC scope cl C X.env) fp) tg g')
    (ht : ∀ (s : Shared) (H : Hp) (C : Addr) (cl : List (Str × Addr)) (fp : List Addr), PTs (X.blk s H scope (compEnvC scope cl C X.env) fp) ifs tt)
    (hk : ∀ (s : Shared) (H : Hp) (C : Addr) (cl : List (Str × Addr)) (fp : List Addr), PE (X.blk s H scope (compEnvC scope cl C X.env) fp) ke tk)
    (hv : ∀ (s : Shared) (H : Hp) (C : Addr) (cl : List (Str × Addr)) (fp : List Addr), PE (X.blk s H scope (compEnvC scope cl C X.env) fp) ve tv)
    (hs : ∀ x, foldedSetIterable iter X.env x = pure x) : PS X (.Assign [.Name n py] (.DictComp ke ve [⟨tg, iter, ifs, 0⟩] scope pos) pos') (tAsg (tDc wi g' tt tk tv (own.map (·.2))) (gName i)) := by
  refine ⟨fun pins sh σ H D I asked => ?_⟩
  rw [exec_Assign_Name_used _ _ _ _ hsw]
  refine wpAny_bind (wpAny_standAt (wpAny_bind ?_))
  show wpAny _ X.A (do let _ ← comprehension (.DictComp ke ve [⟨tg, iter, ifs, 0⟩] scope pos) scope X.env (firstIterPos [⟨tg, iter, ifs, 0⟩] pos) newDict false (eval iter X.env) (some (assign (.Name n py) X.env))) _ _ sh
  have asked : tDc wi g' tt tk tv (own.map (·.2)) σ H (fun x H1 => gName i x σ H1 D.nx) := asked
  refine wpAny_bind (thn (dc_core (Qf := fun _ s' => SP X pins D .next s') hc hN I hit ok hg ht hk hv hs asked fun d0 C s' m H' I' q hn free => ?_) fun _ s' hq => wpAny_pure (wpAny_pure hq))
  show wpAny _ _ (assign (.Name n py) X.env (.ref d0)) _ _ _
  refine wpAny_assign_Name (store_ok2 (v := V.ref d0) I' hN hi (.inl hloc) rfl (fun s2 I2 ⟨a, sb, ha⟩ => ?_) (.inr hloc))
  obtain ⟨g0, g1, g2, g3, g4, g5⟩ := free
  have apart : C ≠ a := by
    rcases ha with z | z
    · rw [z]; exact g1
    · exact fun e => g4 n a z e.symm
  exact ⟨m, hn.sameBut sb apart, fun h3 sb3 => ⟨_, H', I2.turned (t' := s2.toks) (fun b o nb e => (sb3.2 b nb).trans e) g0 g1 g3 g4 g5, q⟩⟩
theorem sw_dc {ke ve : Expr} {gs : List Comprehension} {scope : Scope} {py : Pos} {n : Str} {l : Nat} {env : PySem.Env} (hk : env.scope.kind = .function) (hy : env.scope.names.lookup n = some .local) (hl : (py.line == pos.line) = true)
    (ha : (scope.names.any fun (m, k) => m == n && (k == .local || k == .cell)) = false) : swapsWith (.DictComp ke ve gs scope pos) (some (.Name n py)) l env = pure true := by
  have kn : env.kindOf n = some .local := hy
  have hb : env.blockKind = .function := by unfold PySem.Env.blockKind; rw [hk]; rfl
  unfold swapsWith
  simp only [hb, kn, ha, Expr.pos, hl]
  rfl
theorem ds_asgDc {iter ke ve : Expr} {ifs : List Expr} {scope : Scope} {own : List (Str × Nat)} {cell : Bool} {t : Tg} {fi : Env → Sto → Res (List Vl × Option (Nat × Cell))} {fcond : Env → Sto → Res Bool} {fk fv : Env → Sto → Res Vl} {i : Nat} {n : Str} {py pos' : Pos}
    (hc : X.calm = true) (hN : X.N.Nodup) (hy : X.N[i]? = some n) (hyl : X.env.scope.names.lookup n = some .local) (hsw : swapsWith (.DictComp ke ve [⟨tg, iter, ifs, 0⟩] scope pos) (some (.Name n py)) pos'.line X.env = pure true)
    (hi : PI X tg iter (tDI W Es fi)) (ok : BlkOk X.N X.env.scope scope own)
    (hg : ∀ (s : Shared) (H : Hp) (C : Addr) (cl : List (Str × Addr)) (fp : List Addr), PG (X.blk s H scope (compEnvC scope cl C X.env) fp) tg (gD W t))
    (ht : ∀ (s : Shared) (H : Hp) (C : Addr) (cl : List (Str × Addr)) (fp : List Addr), PTs (X.blk s H scope (compEnvC scope cl C X.env) fp) ifs (tDT W Es0 fcond))
    (hk : ∀ (s : Shared) (H : Hp) (C : Addr) (cl : List (Str × Addr)) (fp : List Addr), PE (X.blk s H scope (compEnvC scope cl C X.env) fp) ke (tD W Es0 fk))
    (hv : ∀ (s : Shared) (H : Hp) (C : Addr) (cl : List (Str × Addr)) (fp : List Addr), PE (X.blk s H scope (compEnvC scope cl C X.env) fp) ve (tD W Es0 fv))
    (hs : ∀ x, foldedSetIterable iter X.env x = pure x) (hsub : ∀ i ∈ t.slots, i ∈ own.map (·.2)) :
    PS X (.Assign [.Name n py] (.DictComp ke ve [⟨tg, iter, ifs, 0⟩] scope pos) pos') (tDS W Es (asgF (.var i) (dcAll cell t (own.map (·.2)) fi fcond fk fv))) :=
  psI (ps_setDc hc hN hy hyl hsw hi ok hg ht hk hv hs) fun D σ H ⟨α, F, ρ, S, s, er, p⟩ => dc_read hsub ⟨α, F, ρ, S, s, er, (Post.thn er (Rel := VlX W) p).imp fun v H1 ⟨α1, F1, x, S1, x1, s1, r1, p1⟩ => p1.here s1 ((er.ext x1).set r1 i)⟩
end
end Z
end

section
set_option maxHeartbeats 1000000
/-! Z15: the compiled expressions say what the text does. -/
namespace Z
open PySem L2

theorem _root_.L2.Room.u100 {k : Nat} {A : Around} (r : Room k A) : A.units + 100 < cLine := by have := r.un; omega
theorem pasG0 {X : Cx} : PasG X Es0 := fun _ _ _ _ _ _ _ ⟨_, _, _, _, _, _, _, _, _, _, _, _, z⟩ => z.elim
/-- what is known where a piece of text runs -/
structure Cxt (X : Cx) (C : Cs) (W : Wd) (G : Gm) (rc : Nat → List Vl → Sto → Res Vl) (Es : SX) (k : Nat) : Prop where
  K : W.K = X.K
  calm : X.calm = true
  sc : X.env.scope = C.sc
  N : X.N = C.N
  nd : C.N.Nodup
  fn : ∀ x, Loc C.sc x → ownB C.wr x = true → X.fn x = true ∨ C.sc.names.lookup x = some .local
  room : RoomB k X.A
  gb : ∀ x, x ∈ C.gb → X.mg x = none
  gd : ∀ x f, C.gd.lookup x = some f → ∃ fd ps, FnG X.prog X.w X.K X.mg X.base k (W.fa f) fd ps (spF W rc f) ∧ X.mg x = some (.ref (W.fa f)) ∧ PySem.W.keepIn X.K (.ref (W.fa f)) = true ∧ Binds X.K fd ps []
  gc : ∀ x g, C.gc.lookup x = some g → ∃ v u, X.mg x = some u ∧ RelV v u ∧ ∀ F, Rp W F (G.con g) v
  w : W.w = X.w
  fl : ∀ f i cs, C.fl.lookup f = some (i, cs) → FldOk X.K W f i cs
  mt : ∀ m tab, C.mt.lookup m = some tab → MtOk X W k rc m tab
  cls : ∀ x c f, C.cls.lookup x = some (c, f) → ∃ j fd ps, j + 1 ≤ k ∧ Mk X.K (W.ca c) (W.fa f) ∧ FnG X.prog X.w X.K X.mg X.base j (W.fa f) fd ps (spF W rc f) ∧ X.mg x = some (.ref (W.ca c)) ∧ Binds X.K fd ps []
  hv : ∀ f, G.callable f = true → ∃ fd ps, FnG X.prog X.w X.K X.mg X.base k (W.fa f) fd ps (spF W rc f) ∧ PySem.W.keepIn X.K (.ref (W.fa f)) = true ∧ Binds X.K fd ps []
  gg : ∀ x, x ∈ C.gg → X.mg x = some (.builtin "math.gcd")
  kd : ∀ x f ss, C.kd.lookup x = some (f, ss) → ∃ fd ps, FnG X.prog X.w X.K X.mg X.base k (W.fa f) fd ps (spF W rc f) ∧ X.mg x = some (.ref (W.fa f)) ∧ PySem.W.keepIn X.K (.ref (W.fa f)) = true ∧ ∀ q ∈ ss, KB X.K W fd ps q
  pas : PasG X Es
  own : PassesOwn (model X.prog X.w) X.A X.env X.xe

section
variable {X : Cx} {C : Cs} {W : Wd} {G : Gm} {rc : Nat → List Vl → Sto → Res Vl} {Es : SX} {k : Nat}
theorem findN_at {N : List Str} {x : Str} {i : Nat} (h : findN N x = some i) : N[i]? = some x := by
  unfold findN at h
  obtain ⟨hl, hp, _⟩ := List.findIdx?_eq_some_iff_getElem.mp h
  rw [List.getElem?_eq_getElem hl, beq_iff_eq.mp hp]
theorem vis_of {sc : Scope} {x : Str} (h : visB sc x = true) : Vis sc x := by
  unfold visB at h
  split at h
  · rename_i e; exact .inl e
  · rename_i e; exact .inr (.inl e)
  · rename_i e; exact .inr (.inr e)
  · cases h
theorem loc_of {sc : Scope} {x : Str} (h : locB sc x = true) : Loc sc x := by
  unfold locB at h
  split at h
  · rename_i e; exact .inl e
  · rename_i e; exact .inr e
  · cases h
theorem glb_of {sc : Scope} {x : Str} (h : glB sc x = true) : sc.names.lookup x = some .globalImplicit := by
  unfold glB at h
  split at h
  · assumption
  · cases h
theorem Cxt.gl (cx : Cxt X C W G rc Es k) {x : Str} (h : glB C.sc x = true) : Gl X x := by
  show X.env.scope.names.lookup x = _
  rw [cx.sc]; exact glb_of h
theorem not_beq {x y : Str} (h : (!(x == y)) = true) : (x == y) = false := by
  cases e : x == y <;> simp [e] at h ⊢
structure Blt (X : Cx) (x : Str) : Prop where
  g : Gl X x
  m : X.mg x = none
  n : x ≠ "__name__"
  d : (x == ("__debug__" : Str)) = false
theorem Cxt.blt (cx : Cxt X C W G rc Es k) {x : Str} (h : bltB C x = true) : Blt X x := by
  unfold bltB at h
  simp only [Bool.and_eq_true] at h
  exact ⟨cx.gl h.1.1.1, cx.gb x (by simpa using h.1.1.2), fun e => by rw [e] at h; exact absurd h.2 (by decide), not_beq h.1.2⟩
theorem relS_loc {scope sc : Scope} {x : Str} (h : locB scope x = true) : scope.names.lookup x = some .cell ∨ (relS scope sc).names.lookup x = some .local := by
  rcases loc_of h with e | e
  · exact .inr (lookup_relS_keep (by decide) e)
  · exact .inl e
/-- inside a comprehension -/
theorem Cxt.blk (cx : Cxt X C W G rc Es k) (scope : Scope) (s : Shared) (H : Hp) (A : Addr) (cl : List (Str × Addr)) (fp : List Addr) :
    Cxt (X.blk s H scope (compEnvC scope cl A X.env) fp) { C with sc := relS scope C.sc, wr := some scope } W G rc Es0 k where
  K := cx.K
  calm := cx.calm
  sc := by show relS scope X.env.scope = _; rw [cx.sc]
  N := cx.N
  nd := cx.nd
  fn := fun x _ h => (relS_loc (scope := scope) h).imp (fun e => by show (scope.names.lookup x == some .cell) = true; rw [e]; rfl) id
  room := cx.room
  gb := cx.gb
  gd := cx.gd
  gc := cx.gc
  w := cx.w
  fl := cx.fl
  mt := fun m tab h => let q := cx.mt m tab h; ⟨q.nm, q.fn⟩
  cls := cx.cls
  hv := cx.hv
  gg := cx.gg
  kd := cx.kd
  pas := pasG0
  own := PySem.PassesOwn.never
theorem Cxt.tg (cx : Cxt X C W G rc Es k) : ∀ n, (∀ {e : Expr} {t : Tg}, cTg C n e = some t → PG X e (gD W t) ∧ notStar e = true) ∧ (∀ {es : List Expr} {ts : List Tg}, cTgs C n es = some ts → PGs X es (gDs W ts) ∧ ts.length = es.length)
  | 0 => by
    refine ⟨fun {e t} h => ?_, fun {es ts} h => ?_⟩
    · rw [cTg.eq_def] at h
      cases h
    · cases es with
      | nil => rw [cTgs.eq_def] at h; cases h; exact ⟨dgs_nil, rfl⟩
      | cons e es => rw [cTgs.eq_def] at h; cases h
  | n + 1 => by
    obtain ⟨i1, i2⟩ := Cxt.tg cx n
    refine ⟨fun {e t} h => ?_, fun {es ts} h => ?_⟩
    · rw [cTg.eq_def] at h
      cases e with
      | Name x p =>
        dsimp only at h
        cases hf : findN C.N x with
        | none => rw [hf] at h; cases h
        | some i =>
          rw [hf] at h
          dsimp only at h
          split at h
          · rename_i hb
            rw [Bool.and_eq_true] at hb
            cases h
            refine ⟨dg_var (by rw [cx.N]; exact cx.nd) (by rw [cx.N]; exact findN_at hf) (by rw [cx.sc]; exact loc_of hb.1) (by rw [cx.sc]; exact cx.fn x (loc_of hb.1) hb.2), rfl⟩
          · cases h
      | Tuple es k p =>
        dsimp only at h
        split at h
        · rename_i hs
          cases hq : cTgs C n es with
          | none => rw [hq] at h; cases h
          | some ts =>
            rw [hq] at h
            cases h
            obtain ⟨j1, j2⟩ := i2 hq
            exact ⟨dg_tup cx.K cx.calm hs j1 j2, rfl⟩
        · cases h
      | _ => cases h
    · rw [cTgs.eq_def] at h
      cases es with
      | nil => cases h; exact ⟨dgs_nil, rfl⟩
      | cons e es =>
        dsimp only at h
        cases h1 : cTg C n e with
        | none => rw [h1] at h; cases h
        | some t =>
          cases h2 : cTgs C n es with
          | none => rw [h1, h2] at h; cases h
          | some ts =>
            rw [h1, h2] at h
            cases h
            obtain ⟨a1, a2⟩ := i1 h1
            obtain ⟨b1, b2⟩ := i2 h2
            exact ⟨dgs_cons a2 a1 b1, by simp [b2]⟩
end

def POk (n : Nat) : Prop := ∀ {X : Cx} {C : Cs} {W : Wd} {G : Gm} {rc : Nat → List Vl → Sto → Res Vl} {Es : SX} {k : Nat} (cx : Cxt X C W G rc Es k) {cell : Bool} {e : Expr} {c : Ex}, cE C n cell e = some c →
  PE X e (tD W Es (ev G rc c)) ∧ PT X e (tDT W Es fun ρ S => (ev G rc c ρ S).bind tru)
def IOk (n : Nat) : Prop := ∀ {X : Cx} {C : Cs} {W : Wd} {G : Gm} {rc : Nat → List Vl → Sto → Res Vl} {Es : SX} {k : Nat} (cx : Cxt X C W G rc Es k) {tg e : Expr} {k : Ik} {its : List Ex}, cE.cIt C n e = some (k, its) → tgOk tg k = true →
  PI X tg e (tDI W Es fun ρ S => (evs G rc its ρ S).bind (walkF k))

section
variable {X : Cx} {C : Cs} {W : Wd} {G : Gm} {rc : Nat → List Vl → Sto → Res Vl} {Es : SX} {k n : Nat}
theorem seqO_cons {α : Type} {o : Option α} {os : List (Option α)} {xs : List α} (h : seqO (o :: os) = some xs) : ∃ y ys, o = some y ∧ seqO os = some ys ∧ xs = y :: ys := by
  unfold seqO at h
  cases o with
  | none => cases h
  | some y =>
    cases q : seqO os with
    | none => rw [q] at h; cases h
    | some ys => rw [q] at h; cases h; exact ⟨y, ys, rfl, rfl, rfl⟩
theorem args_ok (ih : POk n) (cx : Cxt X C W G rc Es k) : ∀ {es : List Expr} {as : List Ex}, es.all notStar = true → seqO (es.map (cE C n false)) = some as → PA X es (tDA W Es (evs G rc as))
  | [], as, _, h => by cases h; exact da_nil
  | e :: es, as, hs, h => by
    rw [List.all_cons, Bool.and_eq_true] at hs
    obtain ⟨y, ys, h1, h2, rfl⟩ := seqO_cons h
    exact da_cons hs.1 (ih cx h1).1 (args_ok ih cx hs.2 h2)
theorem args_nil (ih : POk n) : ∀ {es : List Expr} {as : List Ex}, seqO (es.map (cE C n false)) = some as → es = [] → evs G rc as = nilF
  | [], as, h, _ => by cases h; rfl
  | e :: es, as, h, z => by cases z
theorem kwa_ok (ih : POk n) (cx : Cxt X C W G rc Es k) : ∀ {kws : List Keyword} {as : List Ex} {ks : List Str}, kwNames kws = some ks → seqO (kws.map fun k => cE C n false k.value) = some as → PK X kws (tDA W Es (evs G rc as))
  | [], as, _, _, h => by cases h; exact dk_nil
  | ⟨nm, e, p⟩ :: r, as, ks, hk, h => by
    obtain ⟨y, ys, h1, h2, rfl⟩ := seqO_cons h
    cases nm with
    | none => cases hk
    | some x =>
      unfold kwNames at hk
      split at hk
      · cases q : kwNames r with
        | none => rw [q] at hk; cases hk
        | some l => exact dk_cons (ih cx h1).1 (kwa_ok ih cx q h2)
      · cases hk
theorem seqO_len {α : Type} : ∀ {os : List (Option α)} {xs : List α}, seqO os = some xs → xs.length = os.length
  | [], xs, h => by cases h; rfl
  | o :: os, xs, h => by
    obtain ⟨y, ys, h1, h2, rfl⟩ := seqO_cons h
    simp [seqO_len h2]
theorem shape_some {f : Str} {m : Nat} {ks : List Str} {k : Nat} {q : List (Option D)} (h : shape C f m ks = some (k, q)) : ∃ ss, C.kd.lookup f = some (k, ss) ∧ (m, ks, q) ∈ ss := by
  unfold shape at h
  cases hd : C.kd.lookup f with
  | none => rw [hd] at h; cases h
  | some r =>
    obtain ⟨k', ss⟩ := r
    rw [hd] at h
    dsimp only at h
    cases hf : ss.find? (fun q => q.1 == m && q.2.1 == ks) with
    | none => rw [hf] at h; cases h
    | some r =>
      rw [hf] at h
      cases h
      obtain ⟨a, b, c⟩ := r
      have h1 := List.find?_some hf
      simp only [Bool.and_eq_true, beq_iff_eq] at h1
      obtain ⟨rfl, rfl⟩ := h1
      exact ⟨ss, rfl, List.mem_of_find?_eq_some hf⟩
theorem callN_ok (ih : POk n) (cx : Cxt X C W G rc Es k) {f : Str} {fp pos : Pos} {args : List Expr} {kws : List Keyword} {ks : List Str} {as bs : List Ex} {kf : Nat} {q : List (Option D)} (hgl : glB C.sc f = true) (hd : (f == ("__debug__" : Str)) = false) (hs : args.all notStar = true) (hne : args ≠ []) (hk : kwNames kws = some ks)
    (ha : seqO (args.map (cE C n false)) = some as) (hb : seqO (kws.map fun k => cE C n false k.value) = some bs) (hq : shape C f as.length ks = some (kf, q)) (hh : holes q = bs.length) : PE X (.Call (.Name f fp) args kws pos) (tD W Es (ev G rc (.call kf (as ++ fillE q bs)))) := by
  obtain ⟨ss, h1, h2⟩ := shape_some hq
  obtain ⟨fd, ps, F, hm, kp, hkb⟩ := cx.kd f kf ss h1
  cases args with
  | nil => exact absurd rfl hne
  | cons a args =>
    have hA := args_ok ih cx hs ha
    rw [List.all_cons, Bool.and_eq_true] at hs
    have lk := (kw_names (env := X.env) (pos := pos) hk).2.2.2
    have lb := seqO_len hb
    rw [List.length_map] at lb
    have key := de_callN (q := (as.length, ks, q)) F cx.room.toRoomG (cx.gl hgl) hm kp (hkb _ h2) cx.pas hd hs.1 hs.2 hA (kwa_ok ih cx hk hb) hk (fun _ _ _ _ h => evs_len h) (fun _ _ _ _ h => by rw [evs_len h, lb, ← lk]) (p1 := fp) (pos := pos)
    have e : ∀ ρ S, ev G rc (.call kf (as ++ fillE q bs)) ρ S = (evs G rc as ρ S).bind fun vs S => (evs G rc bs ρ S).bind fun ws S => rc kf (vs ++ fillV q ws) S := fun ρ S => by
      show (evs G rc (as ++ fillE q bs) ρ S).bind (fun vs S => rc kf vs S) = _
      rw [evs_app, bind_assoc']
      congr 1
      funext vs S1
      rw [bind_assoc', evs_fill q bs ρ S1 hh, bind_assoc']
      rfl
    exact peI key fun σ H Q ⟨α, F, ρ, S, s, er, p⟩ => ⟨α, F, ρ, S, s, er, by rw [e ρ S] at p; exact p⟩
theorem dps_ok (ih : POk n) (cx : Cxt X C W G rc Es k) {pos : Pos} : ∀ {keys : List (Option Expr)} {values es : List Expr} {as : List Ex}, pairE keys values = some es → seqO (es.map (cE C n false)) = some as →
    DPs X W Es pos keys values (evs G rc as) ∧ keys.all (·.isSome) = true ∧ keys.length = values.length ∧ as.length = 2 * keys.length
  | [], [], es, as, h, h2 => by
    cases h
    cases h2
    exact ⟨dps_nil, rfl, rfl, rfl⟩
  | some kk :: ks, v :: vs, es, as, h, h2 => by
    unfold pairE at h
    split at h
    · cases q : pairE ks vs with
      | none => rw [q] at h; cases h
      | some r =>
        rw [q] at h
        cases h
        obtain ⟨y, ys, h3, h4, rfl⟩ := seqO_cons h2
        obtain ⟨z, zs, h5, h6, rfl⟩ := seqO_cons h4
        obtain ⟨a1, a2, a3, a4⟩ := dps_ok ih cx q h6
        exact ⟨dps_cons (ih cx h3).1 (ih cx h5).1 a1, by simpa using a2, by simp [a3], by simp [a4]; omega⟩
    · cases h
  | none :: ks, v :: vs, es, as, h, h2 => by cases h
  | none :: ks, [], es, as, h, h2 => by cases h
  | some _ :: ks, [], es, as, h, h2 => by cases h
  | [], v :: vs, es, as, h, h2 => by cases h
theorem fold_and (ih : POk n) (cx : Cxt X C W G rc Es k) {pos : Pos} : ∀ {es : List Expr} {as : List Ex} {c : Ex}, seqO (es.map (cE C n false)) = some as → foldB .and as = some c →
    PE X (.BoolOp .And es pos) (tD W Es (ev G rc c)) ∧ PW X (.BoolOp .And es pos) (tDT W Es fun ρ S => (ev G rc c ρ S).bind tru)
  | [], as, c, h, hf => by cases h; cases hf
  | [e], as, c, h, hf => by
    obtain ⟨y, ys, h1, h2, rfl⟩ := seqO_cons h
    cases h2
    cases hf
    exact ⟨pe_one (ih cx h1).1, pw_and1 (ih cx h1).2⟩
  | e :: b :: es, as, c, h, hf => by
    obtain ⟨y, ys, h1, h2, rfl⟩ := seqO_cons h
    obtain ⟨z, zs, h3, h4, rfl⟩ := seqO_cons h2
    unfold foldB at hf
    cases q : foldB .and (z :: zs) with
    | none => rw [q] at hf; cases hf
    | some d =>
      rw [q] at hf
      cases hf
      obtain ⟨r1, r2⟩ := fold_and ih cx (es := b :: es) h2 q
      exact ⟨de_and cx.K (ih cx h1).1 r1, dw_and (ih cx h1).2 r2⟩
theorem fold_or (ih : POk n) (cx : Cxt X C W G rc Es k) {pos : Pos} : ∀ {es : List Expr} {as : List Ex} {c : Ex}, seqO (es.map (cE C n false)) = some as → foldB .or as = some c →
    PE X (.BoolOp .Or es pos) (tD W Es (ev G rc c)) ∧ PW X (.BoolOp .Or es pos) (tDT W Es fun ρ S => (ev G rc c ρ S).bind tru)
  | [], as, c, h, hf => by cases h; cases hf
  | [e], as, c, h, hf => by
    obtain ⟨y, ys, h1, h2, rfl⟩ := seqO_cons h
    cases h2
    cases hf
    exact ⟨pe_one (ih cx h1).1, pw_or1 (ih cx h1).2⟩
  | e :: b :: es, as, c, h, hf => by
    obtain ⟨y, ys, h1, h2, rfl⟩ := seqO_cons h
    obtain ⟨z, zs, h3, h4, rfl⟩ := seqO_cons h2
    unfold foldB at hf
    cases q : foldB .or (z :: zs) with
    | none => rw [q] at hf; cases hf
    | some d =>
      rw [q] at hf
      cases hf
      obtain ⟨r1, r2⟩ := fold_or ih cx (es := b :: es) h2 q
      exact ⟨de_or cx.K (ih cx h1).1 r1, dw_or (ih cx h1).2 r2⟩
theorem tyn_ok (cx : Cxt X C W G rc Es k) : ∀ {ts : List Expr} {ns : List Nat}, seqO (ts.map (isTyName C)) = some ns → TyNames X ts ns
  | [], ns, h => by cases h; exact .nil
  | t :: ts, ns, h => by
    obtain ⟨y, ys, h1, h2, rfl⟩ := seqO_cons h
    unfold isTyName at h1
    cases t with
    | Name x p =>
      dsimp only at h1
      split at h1
      · rename_i hb
        obtain ⟨g, m, nn, d⟩ := cx.blt hb
        exact .cons h1 g m nn d (tyn_ok cx h2)
      · cases h1
    | _ => cases h1
theorem opt_ok (ih : POk n) (cx : Cxt X C W G rc Es k) {lo : Option Expr} {l : Option Ex} (h : optE (cE C n false) lo = some l) : PO X lo (tDO W Es (evo G rc l)) := by
  cases lo with
  | none => cases h; exact do_none
  | some e =>
    dsimp only [optE] at h
    cases q : cE C n false e with
    | none => rw [q] at h; cases h
    | some c => rw [q] at h; cases h; exact do_some (ih cx q).1
theorem cond_ok (ih : POk n) (cx : Cxt X C W G rc Es k) {ifs : List Expr} {l : Option Ex} (h : condE (cE C n false) ifs = some l) : PTs X ifs (tDT W Es (evc G rc l)) := by
  cases ifs with
  | nil =>
    cases h
    exact ⟨fun pins s σ H Q I ⟨α, F, ρ, S, sr, er, p⟩ => pts_nil.run pins s σ H Q I (p.here sr rfl)⟩
  | cons c r =>
    cases r with
    | nil =>
      dsimp only [condE] at h
      cases q : cE C n false c with
      | none => rw [q] at h; cases h
      | some d => rw [q] at h; cases h; exact pts_one (ih cx q).2
    | cons _ _ => cases h
theorem plain_ix {b : Expr} (h : isSl b = false) : PlainIx b := by
  intro o i
  cases b <;> first | rfl | (simp [isSl] at h)
theorem tgNames_slots : True := trivial
end
theorem notset_ok {iter : Expr} (h : notSet iter = true) {env : PySem.Env} (x : Value) : foldedSetIterable iter env x = pure x := by
  cases iter <;> first | rfl | (simp [notSet] at h)
theorem cIt_ok (n : Nat) (ih : POk n) : IOk (n + 1) := by
  intro X C W G rc Es k cx tg e kk its h ht
  rw [cE.cIt.eq_def] at h
  dsimp only at h
  have seq : ∀ {e : Expr}, (cE C n false e).map (fun e => (Ik.seq, [e])) = some (kk, its) → PI X tg e (tDI W Es fun ρ S => (evs G rc its ρ S).bind (walkF kk)) := fun {e} h => by
    cases q : cE C n false e with
    | none => rw [q] at h; cases h
    | some c =>
      rw [q] at h
      cases h
      exact di_seq cx.K (ih cx q).1
  cases e with
  | Call g args kws p =>
    cases g with
    | Name f fp =>
      cases kws with
      | cons _ _ => exact seq h
      | nil =>
        dsimp only at h
        split at h
        · rename_i hb
          rw [Bool.and_eq_true] at hb
          obtain ⟨g, m, nn, d⟩ := cx.blt hb.1
          cases hq : seqO (args.map (cE C n false)) with
          | none => rw [hq] at h; cases h
          | some as =>
            rw [hq] at h
            dsimp only at h
            cases hk : cIk f as with
            | none => rw [hk] at h; exact seq h
            | some k' =>
              rw [hk] at h
              cases h
              unfold cIk at hk
              match args, hq, hb with
              | [], hq, hb => cases hq; cases hk
              | [a], hq, hb =>
                obtain ⟨y, ys, h1, h2, rfl⟩ := seqO_cons hq
                cases h2
                dsimp only at hk
                have hs : notStar a = true := by simpa using hb.2
                split at hk
                · rename_i hr
                  have hr := beq_iff_eq.mp hr
                  subst hr
                  cases hk
                  exact di_rng1 g m hs (ih cx h1).1
                · split at hk
                  · rename_i hr
                    have hr := beq_iff_eq.mp hr
                    subst hr
                    cases hk
                    exact di_rev cx.K g m hs (ih cx h1).1
                  · split at hk
                    · rename_i hr
                      have hr := beq_iff_eq.mp hr
                      subst hr
                      cases hk
                      cases tg with
                      | Tuple es kk tp => exact di_enum cx.K g m hs (ih cx h1).1
                      | _ => cases ht
                    · cases hk
              | [a, b], hq, hb =>
                obtain ⟨y, ys, h1, h2, rfl⟩ := seqO_cons hq
                obtain ⟨z, zs, h3, h4, rfl⟩ := seqO_cons h2
                cases h4
                dsimp only at hk
                have hs : notStar a = true ∧ notStar b = true := by simpa using hb.2
                split at hk
                · rename_i hr
                  have hr := beq_iff_eq.mp hr
                  subst hr
                  cases hk
                  exact di_rng2 g m hs.1 hs.2 (ih cx h1).1 (ih cx h3).1
                · cases hk
              | a :: b :: c :: r, hq, hb =>
                obtain ⟨y, ys, h1, h2, rfl⟩ := seqO_cons hq
                obtain ⟨z, zs, h3, h4, rfl⟩ := seqO_cons h2
                obtain ⟨w, ws, h5, h6, rfl⟩ := seqO_cons h4
                cases hk
        · exact seq h
    | _ => exact seq h
  | _ => exact seq h
end Z
end

section
set_option maxHeartbeats 1000000
/-! Z16: the compiled expressions, all forms. -/
namespace Z
open PySem L2
section
theorem cE_step (n : Nat) (ih : POk n) (ihi : IOk n) : POk (n + 1) := by
  intro X C W G rc Es k cx cell e c h
  rw [cE.eq_def] at h
  dsimp only at h
  have plain : ∀ {e : Expr} {c : Ex} (he : ∀ whole, isTrue e X.env whole = (do let v ← whole; standAt e.pos; holding [v] (PySem.truthy v))), PE X e (tD W Es (ev G rc c)) → PE X e (tD W Es (ev G rc c)) ∧ PT X e (tDT W Es fun ρ S => (ev G rc c ρ S).bind tru) :=
    fun {e c} he p => ⟨p, dt_truth cx.K p he⟩
  cases e with
  | Constant cc kk pos =>
    cases cc with
    | int i => cases h; exact plain (fun _ => rfl) (de_con pe_int fun _ => rfl)
    | bool i => cases h; exact plain (fun _ => rfl) (de_con pe_bl fun _ => rfl)
    | none => cases h; exact plain (fun _ => rfl) (de_con pe_non fun _ => rfl)
    | str i => cases h; exact plain (fun _ => rfl) (de_con pe_str fun _ => rfl)
    | _ => cases h
  | Name x pos =>
    dsimp only at h
    cases hq : cNm C x with
    | some i =>
      rw [hq] at h
      cases h
      unfold cNm at hq
      cases hf : findN C.N x with
      | none => rw [hf] at hq; cases hq
      | some j =>
        rw [hf] at hq
        dsimp only at hq
        split at hq
        · rename_i hb
          simp only [Bool.and_eq_true] at hb
          cases hq
          exact plain (fun _ => rfl) (de_var (by rw [cx.N]; exact findN_at hf) (by rw [cx.sc]; exact vis_of hb.1.1) (not_beq hb.1.2) (not_beq hb.2))
        · cases hq
    | none =>
      rw [hq] at h
      dsimp only at h
      split at h
      · rename_i hb
        rw [Bool.and_eq_true] at hb
        cases hg : C.gc.lookup x with
        | none => rw [hg] at h; cases h
        | some g =>
          rw [hg] at h
          cases h
          obtain ⟨v, u, h1, h2, h3⟩ := cx.gc x g hg
          exact plain (fun _ => rfl) (de_con (pe_glob (cx.gl hb.1) h1 h2 (not_beq hb.2)) h3)
      · cases h
  | BinOp a op b pos =>
    dsimp only at h
    cases h1 : cOp op with
    | none => rw [h1] at h; cases h
    | some o =>
      cases h2 : cE C n false a with
      | none => rw [h1, h2] at h; cases h
      | some a' =>
        cases h3 : cE C n false b with
        | none => rw [h1, h2, h3] at h; cases h
        | some b' =>
          rw [h1, h2, h3] at h
          cases h
          exact plain (fun _ => rfl) (de_op cx.K h1 (ih cx h2).1 (ih cx h3).1)
  | UnaryOp op a pos =>
    cases op with
    | USub =>
      dsimp only at h
      cases h2 : cE C n false a with
      | none => rw [h2] at h; cases h
      | some a' =>
        rw [h2] at h
        cases h
        exact plain (fun _ => rfl) (de_neg (ih cx h2).1)
    | Not =>
      dsimp only at h
      cases h2 : cE C n false a with
      | none => rw [h2] at h; cases h
      | some a' =>
        rw [h2] at h
        cases h
        exact ⟨de_not cx.K (ih cx h2).1, dt_not (ih cx h2).2⟩
    | _ => cases h
  | BoolOp op es pos =>
    cases op with
    | And =>
      dsimp only at h
      cases hq : seqO (es.map (cE C n false)) with
      | none => rw [hq] at h; cases h
      | some as =>
        rw [hq] at h
        obtain ⟨p1, p2⟩ := fold_and ih cx (pos := pos) hq h
        exact ⟨p1, p2.pt⟩
    | Or =>
      dsimp only at h
      cases hq : seqO (es.map (cE C n false)) with
      | none => rw [hq] at h; cases h
      | some as =>
        rw [hq] at h
        obtain ⟨p1, p2⟩ := fold_or ih cx (pos := pos) hq h
        exact ⟨p1, p2.pt⟩
  | IfExp cc a b pos =>
    dsimp only at h
    cases h1 : cE C n false cc with
    | none => rw [h1] at h; cases h
    | some c' =>
      cases h2 : cE C n cell a with
      | none => rw [h1, h2] at h; cases h
      | some a' =>
        cases h3 : cE C n cell b with
        | none => rw [h1, h2, h3] at h; cases h
        | some b' =>
          rw [h1, h2, h3] at h
          cases h
          exact ⟨de_ite (ih cx h1).2 (ih cx h2).1 (ih cx h3).1, dt_ite (ih cx h1).2 (ih cx h2).2 (ih cx h3).2⟩
  | Compare a ops bs pos =>
    match ops, bs with
    | [op], [b] =>
      dsimp only at h
      split at h
      · cases h
      · rename_i hm
        have hm : behindInMarks op b = false := by simpa using hm
        cases h1 : cCm op with
        | none => rw [h1] at h; cases h
        | some o =>
          cases h2 : cE C n false a with
          | none => rw [h1, h2] at h; cases h
          | some a' =>
            cases h3 : cE C n false b with
            | none => rw [h1, h2, h3] at h; cases h
            | some b' =>
              rw [h1, h2, h3] at h
              cases h
              exact ⟨de_cmp cx.K cx.w cx.room.rm.u100 h1 hm (ih cx h2).1 (ih cx h3).1, dt_cmp cx.K cx.w cx.room.rm.u100 h1 hm (ih cx h2).1 (ih cx h3).1⟩
    | [op, op'], [b, d] =>
      dsimp only at h
      split at h
      · cases h
      · rename_i hm
        have hm : lastMarks [op, op'] [b, d] = false := by simpa using hm
        cases h1 : cCm op with
        | none => rw [h1] at h; cases h
        | some o =>
          cases h1' : cCm op' with
          | none => rw [h1, h1'] at h; cases h
          | some o' =>
            cases h2 : cE C n false a with
            | none => rw [h1, h1', h2] at h; cases h
            | some a' =>
              cases h3 : cE C n false b with
              | none => rw [h1, h1', h2, h3] at h; cases h
              | some b' =>
                cases h4 : cE C n false d with
                | none => rw [h1, h1', h2, h3, h4] at h; cases h
                | some d' =>
                  rw [h1, h1', h2, h3, h4] at h
                  cases h
                  exact ⟨de_chain cx.K cx.w cx.room.rm.u100 h1 h1' hm (ih cx h2).1 (ih cx h3).1 (ih cx h4).1, dt_chain cx.K cx.w cx.room.rm.u100 h1 h1' hm (ih cx h2).1 (ih cx h3).1 (ih cx h4).1⟩
    | [], _ => cases h
    | [_], [] => cases h
    | [_], _ :: _ :: _ => cases h
    | [_, _], [] => cases h
    | [_, _], [_] => cases h
    | [_, _], _ :: _ :: _ :: _ => cases h
    | _ :: _ :: _ :: _, _ => cases h
  | Tuple es kk pos =>
    dsimp only at h
    split at h
    · rename_i hs
      cases hq : seqO (es.map (cE C n false)) with
      | none => rw [hq] at h; cases h
      | some as =>
        rw [hq] at h
        cases h
        exact plain (fun _ => rfl) (de_tup (args_ok ih cx hs hq))
    · cases h
  | List es pos =>
    dsimp only at h
    split at h
    · rename_i hs
      cases hq : seqO (es.map (cE C n false)) with
      | none => rw [hq] at h; cases h
      | some as =>
        rw [hq] at h
        cases h
        exact plain (fun _ => rfl) (de_lst (args_ok ih cx hs hq))
    · cases h
  | Subscript a b pos =>
    have ix : ∀ {b : Expr}, (if isSl b = true then none else match cE C n false a, cE C n false b with
      | some a, some b => some (Ex.ix a b)
      | _, _ => none) = some c → PE X (.Subscript a b pos) (tD W Es (ev G rc c)) ∧ PT X (.Subscript a b pos) (tDT W Es fun ρ S => (ev G rc c ρ S).bind tru) := fun {b} h => by
      split at h
      · cases h
      · rename_i hs
        cases h2 : cE C n false a with
        | none => rw [h2] at h; cases h
        | some a' =>
          cases h3 : cE C n false b with
          | none => rw [h2, h3] at h; cases h
          | some b' =>
            rw [h2, h3] at h
            cases h
            exact plain (fun _ => rfl) (de_ix cx.K cx.w cx.room.rm.u100 (plain_ix (by simpa using hs)) (ih cx h2).1 (ih cx h3).1)
    cases b with
    | Slice lo hi st p2 =>
      cases st with
      | some _ => exact ix h
      | none =>
        dsimp only at h
        cases h2 : cE C n false a with
        | none => rw [h2] at h; cases h
        | some a' =>
          rw [h2] at h
          generalize hl : optE (cE C n false) lo = ol at h
          generalize hh : optE (cE C n false) hi = oh at h
          cases ol with
          | none => cases h
          | some l =>
            cases oh with
            | none => cases h
            | some r =>
              cases h
              exact plain (fun _ => rfl) (de_sl cx.K (ih cx h2).1 (opt_ok ih cx hl) (opt_ok ih cx hh))
    | _ => exact ix h
  | Dict keys values pos =>
    dsimp only at h
    split at h
    · cases h
    rename_i h15
    cases hq : pairE keys values with
    | none => rw [hq] at h; cases h
    | some es =>
      rw [hq] at h
      dsimp only at h
      cases hs : seqO (es.map (cE C n false)) with
      | none => rw [hs] at h; cases h
      | some as =>
        rw [hs] at h
        obtain ⟨a1, a2, a3, a4⟩ := dps_ok ih cx (pos := pos) hq hs
        · cases h
          cases keys with
          | nil =>
            cases values with
            | nil =>
              cases hq
              cases hs
              exact plain (fun _ => rfl) de_dct0
            | cons _ _ => cases a3
          | cons kk ks =>
            refine plain (fun _ => rfl) (de_dct a1 a2 a3 (by simp) (by omega) fun ρ S S' z => ?_)
            cases as with
            | nil => simp at a4
            | cons a as =>
              have z : (ev G rc a ρ S).bind (fun v S => (evs G rc as ρ S).bind fun vs S => .ok (v :: vs) S) = .ok [] S' := z
              cases e1 : ev G rc a ρ S with
              | ok v S1 =>
                rw [e1] at z
                have z : (evs G rc as ρ S1).bind (fun vs S => .ok (v :: vs) S) = .ok [] S' := z
                cases e2 : evs G rc as ρ S1 with
                | ok vs S2 => rw [e2] at z; cases z
                | exc ee S2 => rw [e2] at z; cases z
                | bad => rw [e2] at z; cases z
              | exc ee S1 => rw [e1] at z; cases z
              | bad => rw [e1] at z; cases z
  | Attribute o f pos =>
    dsimp only at h
    split at h
    · rename_i hb
      cases h1 : cE C n false o with
      | none => rw [h1] at h; cases h
      | some o' =>
        cases h2 : C.fl.lookup f with
        | none => rw [h1, h2] at h; cases h
        | some q =>
          obtain ⟨i, cs⟩ := q
          rw [h1, h2] at h
          cases h
          exact plain (fun _ => rfl) (de_fld ((cx.fl f i cs h2).mono _) hb (ih cx h1).1)
    · cases h
  | DictComp ke ve gs scope pos =>
    match gs, h with
    | [⟨tg, iter, ifs, asy⟩], h =>
      dsimp only at h
      split at h
      · rename_i hb
        rw [Bool.and_eq_true, Bool.and_eq_true] at hb
        obtain ⟨hb, h0⟩ := hb
        have h0 := of_decide_eq_true h0
        subst h0
        generalize hcc : condE (cE { C with sc := relS scope C.sc, wr := some scope } n false) ifs = oc at h
        cases h1 : cE.cIt C n iter with
        | none => rw [h1] at h; cases h
        | some q =>
          obtain ⟨kk, its⟩ := q
          cases h2 : cTg { C with sc := relS scope C.sc, wr := some scope } n tg with
          | none => rw [h1, h2] at h; cases h
          | some t =>
            cases h3 : cE { C with sc := relS scope C.sc, wr := some scope } n false ke with
            | none => rw [h1, h2, h3] at h; cases h
            | some el =>
              cases h4 : cE { C with sc := relS scope C.sc, wr := some scope } n false ve with
              | none => rw [h1, h2, h3, h4] at h; cases h
              | some vl =>
                cases oc with
                | none => rw [h1, h2, h3, h4] at h; cases h
                | some oc =>
                  rw [h1, h2, h3, h4] at h
                  dsimp only at h
                  split at h
                  · rename_i hz
                    rw [Bool.and_eq_true] at hz
                    cases h
                    refine plain (fun _ => rfl) (de_dc cx.calm (by rw [cx.N]; exact cx.nd) (ihi cx h1 hz.2) (blkOk_by (by rw [cx.N, cx.sc]; exact hb.1))
                      (fun s H A cl fp => ((cx.blk scope s H A cl fp).tg n).1 h2 |>.1) (fun s H A cl fp => cond_ok ih (cx.blk scope s H A cl fp) hcc) (fun s H A cl fp => (ih (cx.blk scope s H A cl fp) h3).1)
                      (fun s H A cl fp => (ih (cx.blk scope s H A cl fp) h4).1) (fun x => notset_ok hb.2 x) fun i hi => ?_)
                    have := List.all_eq_true.mp hz.1 i hi
                    simpa using this
                  · cases h
      · cases h
    | [], h => cases h
    | ⟨_, _, _, _⟩ :: ⟨_, _, _, _⟩ :: _, h => cases h
  | Call g args kws pos =>
    cases kws with
    | cons kw kws =>
      cases g with
      | Name f fp =>
        dsimp only at h
        cases hko : keyOf (kw :: kws) with
        | some g =>
          rw [hko] at h
          dsimp only at h
          split at h
          · rename_i hb
            simp only [Bool.and_eq_true] at hb
            obtain ⟨q1, q2, e⟩ := keyOf_some hko
            cases e
            obtain ⟨bg, bm, nn, bd⟩ := cx.blt hb.1.1.1
            cases hkf : kfOf f args.length with
            | none => rw [hkf] at h; cases h
            | some b =>
              cases hd : C.gd.lookup g with
              | none => rw [hkf, hd] at h; cases h
              | some kf =>
                cases hq : seqO (args.map (cE C n false)) with
                | none => rw [hkf, hd, hq] at h; cases h
                | some as =>
                  rw [hkf, hd, hq] at h
                  cases h
                  obtain ⟨fd, ps, f1, f2, f3, f4⟩ := cx.gd g kf hd
                  cases args with
                  | nil => exact (kfOf_pos hkf).elim
                  | cons a args =>
                    have hs := hb.1.1.2
                    have hA := args_ok ih cx hs hq
                    rw [List.all_cons, Bool.and_eq_true] at hs
                    exact plain (fun _ => rfl) (de_kf cx.K cx.calm f1 cx.room f4 hkf bg bm nn bd (cx.gl hb.1.2) f2 (not_beq hb.2) hs.1 hs.2 hA)
          · cases h
        | none =>
        rw [hko] at h
        dsimp only at h
        split at h
        · rename_i hb
          simp only [Bool.and_eq_true] at hb
          cases hk : kwNames (kw :: kws) with
          | none => rw [hk] at h; cases h
          | some ks =>
            cases ha : seqO (args.map (cE C n false)) with
            | none => rw [hk, ha] at h; cases h
            | some as =>
              cases hbb : seqO ((kw :: kws).map fun k => cE C n false k.value) with
              | none => rw [hk, ha, hbb] at h; cases h
              | some bs =>
                rw [hk, ha, hbb] at h
                dsimp only at h
                cases hq : shape C f as.length ks with
                | none => rw [hq] at h; cases h
                | some r =>
                  obtain ⟨kf, q⟩ := r
                  rw [hq] at h
                  dsimp only at h
                  split at h
                  · rename_i hh
                    cases h
                    exact plain (fun _ => rfl) (callN_ok ih cx hb.1.2 (not_beq hb.2) hb.1.1.1 (fun z => by rw [z] at hb; exact absurd hb.1.1.2 (by decide)) hk ha hbb hq (beq_iff_eq.mp hh))
                  · cases h
        · cases h
      | _ => cases h
    | nil =>
      cases g with
      | Name f fp =>
        dsimp only at h
        split at h
        · rename_i hb
          rw [Bool.and_eq_true] at hb
          have hf := beq_iff_eq.mp hb.2
          subst hf
          obtain ⟨g, m, nn, d⟩ := cx.blt hb.1
          have one : ∀ {x t : Expr}, (if (!notStar x) = true then none else match cE C n false x, isTyName C t with
              | some x, some t => some (Ex.bf (.isinst [t]) false [x])
              | _, _ => none) = some c → PE X (.Call (.Name "isinstance" fp) [x, t] [] pos) (tD W Es (ev G rc c)) := fun {x t} h => by
            split at h
            · cases h
            · rename_i hs
              cases h2 : cE C n false x with
              | none => rw [h2] at h; cases h
              | some x' =>
                cases h3 : isTyName C t with
                | none => rw [h2, h3] at h; cases h
                | some t' =>
                  rw [h2, h3] at h
                  cases h
                  unfold isTyName at h3
                  cases t with
                  | Name y p =>
                    dsimp only at h3
                    split at h3
                    · rename_i hb2
                      obtain ⟨g2, m2, n2, d2⟩ := cx.blt hb2
                      exact de_isi cx.K h3 g m g2 m2 n2 d2 (by simpa using hs) (ih cx h2).1
                    · cases h3
                  | _ => cases h3
          match args, h with
          | [x, t], h =>
            cases t with
            | Tuple ts kk tp =>
              dsimp only at h
              split at h
              · cases h
              · rename_i hs
                cases h2 : cE C n false x with
                | none => rw [h2] at h; cases h
                | some x' =>
                  cases h3 : seqO (ts.map (isTyName C)) with
                  | none => rw [h2, h3] at h; cases h
                  | some ns =>
                    rw [h2, h3] at h
                    dsimp only at h
                    split at h
                    · rename_i hl
                      cases h
                      exact plain (fun _ => rfl) (de_isiT cx.K (tyn_ok cx h3) hl g m (by simpa using hs) (ih cx h2).1)
                    · cases h
            | _ => exact plain (fun _ => rfl) (one h)
          | [], h => cases h
          | [_], h => cases h
          | _ :: t :: _ :: _, h => cases t <;> cases h
        · split at h
          · rename_i hb
            rw [Bool.and_eq_true, Bool.and_eq_true] at hb
            have hf := beq_iff_eq.mp hb.1.2
            subst hf
            obtain ⟨g, m, nn, d⟩ := cx.blt hb.1.1
            split at h
            · rename_i elt tg iter ifs asy scope p2
              split at h
              · rename_i hb2
                rw [Bool.and_eq_true, Bool.and_eq_true] at hb2
                obtain ⟨hb2, h0⟩ := hb2
                have h0 := of_decide_eq_true h0
                subst h0
                generalize hcc : condE (cE { C with sc := relS scope C.sc, wr := some scope } n false) ifs = oc at h
                cases h1 : cE.cIt C n iter with
                | none => rw [h1] at h; cases h
                | some q =>
                  obtain ⟨kk, its⟩ := q
                  cases h2 : cTg { C with sc := relS scope C.sc, wr := some scope } n tg with
                  | none => rw [h1, h2] at h; cases h
                  | some t =>
                    cases h3 : cE { C with sc := relS scope C.sc, wr := some scope } n false elt with
                    | none => rw [h1, h2, h3] at h; cases h
                    | some el =>
                      cases oc with
                      | none => rw [h1, h2, h3] at h; cases h
                      | some oc =>
                        rw [h1, h2, h3] at h
                        dsimp only at h
                        split at h
                        · rename_i hz
                          rw [Bool.and_eq_true] at hz
                          cases h
                          refine plain (fun _ => rfl) (de_sc cx.calm (by rw [cx.N]; exact cx.nd) g m (ihi cx h1 hz.2) (blkOk_by (by rw [cx.N, cx.sc]; exact hb2.1))
                            (fun s H A cl fp => ((cx.blk scope s H A cl fp).tg n).1 h2 |>.1) (fun s H A cl fp => cond_ok ih (cx.blk scope s H A cl fp) hcc) (fun s H A cl fp => (ih (cx.blk scope s H A cl fp) h3).1)
                            (fun x => notset_ok hb2.2 x) fun i hi => ?_)
                          have := List.all_eq_true.mp hz.1 i hi
                          simpa using this
                        · cases h
              · cases h
            · rename_i g2 p3 x p4
              split at h
              · rename_i hb2
                rw [Bool.and_eq_true, Bool.and_eq_true] at hb2
                have hg2 := beq_iff_eq.mp hb2.1.2
                subst hg2
                obtain ⟨g', m', _, _⟩ := cx.blt hb2.1.1
                simp only [Option.map_eq_some_iff] at h
                obtain ⟨x', h2, rfl⟩ := h
                exact plain (fun _ => rfl) (de_sset cx.calm g m g' m' hb2.2 (ih cx h2).1)
              · cases h
            · cases h
          rename_i hns
          split at h
          · rename_i hb
            rw [Bool.and_eq_true] at hb
            have hf := beq_iff_eq.mp hb.2
            subst hf
            obtain ⟨g, m, nn, d⟩ := cx.blt hb.1
            split at h
            · rename_i x
              split at h
              · rename_i hs
                simp only [Option.map_eq_some_iff] at h
                obtain ⟨x', h2, rfl⟩ := h
                exact plain (fun _ => rfl) (de_dict1 g m hs (ih cx h2).1)
              · cases h
            · cases h
          rename_i hnd
          split at h
          · rename_i hb
            rw [Bool.and_eq_true] at hb
            have hf := beq_iff_eq.mp hb.2
            subst hf
            obtain ⟨g, m, nn, d⟩ := cx.blt hb.1
            split at h
            · rename_i es lp
              split at h
              · rename_i hs
                simp only [Option.map_eq_some_iff] at h
                obtain ⟨as, hq, rfl⟩ := h
                exact plain (fun _ => rfl) (de_rep cx.room.gs cx.room.rm.u100 g m (args_ok ih cx hs hq))
              · cases h
            · rename_i x hx
              split at h
              · rename_i hs
                simp only [Option.map_eq_some_iff] at h
                obtain ⟨x', h2, rfl⟩ := h
                exact plain (fun _ => rfl) (de_repr1 cx.room.gs cx.room.rm.u100 g m hs (ih cx h2).1)
              · cases h
            · cases h
          rename_i hnr
          split at h
          · rename_i hs
            cases hq : seqO (args.map (cE C n false)) with
            | none => rw [hq] at h; cases h
            | some as =>
              rw [hq] at h
              dsimp only at h
              have hA := args_ok ih cx hs hq
              split at h
              · rename_i hgl
                rw [Bool.and_eq_true] at hgl
                cases hd : C.gd.lookup f with
                | some kf =>
                  rw [hd] at h
                  cases h
                  obtain ⟨fd, ps, h1, h2, h3, h4⟩ := cx.gd f kf hd
                  cases args with
                  | nil =>
                    cases hq
                    exact plain (fun _ => rfl) (de_call0 h1 cx.room.toRoomG (cx.gl hgl.1) h2 h3 h4 cx.pas (not_beq hgl.2))
                  | cons a args =>
                    rw [List.all_cons, Bool.and_eq_true] at hs
                    exact plain (fun _ => rfl) (de_call h1 cx.room.toRoomG (cx.gl hgl.1) h2 h3 h4 cx.pas (not_beq hgl.2) hs.1 hs.2 hA)
                | none =>
                  rw [hd] at h
                  dsimp only at h
                  cases hcl : C.cls.lookup f with
                  | some q =>
                    obtain ⟨c0, kf⟩ := q
                    rw [hcl] at h
                    cases h
                    obtain ⟨j, fd, ps, hj, M, h1, h2, h4⟩ := cx.cls f c0 kf hcl
                    exact plain (fun _ => rfl) (de_make M h1 (cx.room.toRoomG.low hj) (cx.gl hgl.1) h2 h4 cx.pas (not_beq hgl.2) hs hA (args_nil ih hq))
                  | none =>
                  rw [hcl] at h
                  dsimp only at h
                  cases hsh : shape C f as.length [] with
                  | some r =>
                    obtain ⟨kf, q⟩ := r
                    rw [hsh] at h
                    dsimp only at h
                    split at h
                    · rename_i hh
                      rw [Bool.and_eq_true] at hh
                      cases h
                      exact plain (fun _ => rfl) (callN_ok (bs := []) ih cx hgl.1 (not_beq hgl.2) hs (fun z => by subst z; cases hq; exact absurd hh.1 (by decide)) rfl hq rfl hsh (beq_iff_eq.mp hh.2))
                    · cases h
                  | none =>
                  rw [hsh] at h
                  dsimp only at h
                  split at h
                  · rename_i hb
                    rw [Bool.and_eq_true] at hb
                    obtain ⟨g, m, nn, d⟩ := cx.blt hb.1
                    cases hbf : cBf f with
                    | none => rw [hbf] at h; cases h
                    | some b =>
                      rw [hbf] at h
                      cases h
                      cases args with
                      | nil => cases hq; exact absurd hb.2 (by decide)
                      | cons a args =>
                        rw [List.all_cons, Bool.and_eq_true] at hs
                        exact plain (fun _ => rfl) (de_bf cx.K cx.room.rm.u100 cx.calm hbf g m nn d hs.1 hs.2 hA)
                  · split at h
                    · rename_i hb
                      rw [Bool.and_eq_true] at hb
                      cases h
                      cases args with
                      | nil => cases hq; exact absurd hb.2 (by decide)
                      | cons a args =>
                        rw [List.all_cons, Bool.and_eq_true] at hs
                        exact plain (fun _ => rfl) (de_gcd (cx.gl hgl.1) (cx.gg f (by simpa using hb.1)) (not_beq hgl.2) hs.1 hs.2 hA)
                    · cases h
              · cases hn : cNm C f with
                | none => rw [hn] at h; cases h
                | some i =>
                  rw [hn] at h
                  dsimp only at h
                  split at h
                  · cases h
                  · rename_i hne
                    cases h
                    unfold cNm at hn
                    cases hf : findN C.N f with
                    | none => rw [hf] at hn; cases hn
                    | some j =>
                      rw [hf] at hn
                      dsimp only at hn
                      split at hn
                      · rename_i hb
                        simp only [Bool.and_eq_true] at hb
                        cases hn
                        cases args with
                        | nil => cases hq; exact absurd rfl hne
                        | cons a args =>
                          rw [List.all_cons, Bool.and_eq_true] at hs
                          exact plain (fun _ => rfl) (de_callv cx.hv cx.room.toRoomG (by rw [cx.N]; exact findN_at hf) (by rw [cx.sc]; exact vis_of hb.1.1) (not_beq hb.1.2) (not_beq hb.2) cx.pas hs.1 hs.2 hA)
                      · cases hn
          · cases h
      | Attribute o m apos =>
        dsimp only at h
        split at h
        · rename_i hs
          rw [Bool.and_eq_true] at hs
          cases h2 : cE C n false o with
          | none => rw [h2] at h; cases h
          | some o' =>
            cases hq : seqO (args.map (cE C n false)) with
            | none => rw [h2, hq] at h; cases h
            | some as =>
              rw [h2, hq] at h
              dsimp only at h
              cases hmt : C.mt.lookup m with
              | some tab =>
                rw [hmt] at h
                dsimp only at h
                split at h
                · rename_i hz
                  simp only [Bool.and_eq_true] at hz
                  cases h
                  exact plain (fun _ => rfl) (de_meth ((cx.mt m tab hmt).mono _) (by simpa using hz.2) cx.room.toRoomG cx.pas hs.2 hz.1.1 hs.1 (of_decide_eq_true hz.1.2) (ih cx h2).1 (args_ok ih cx hs.1 hq) (args_nil ih hq))
                · cases h
              | none =>
              rw [hmt] at h
              dsimp only at h
              split at h
              · rename_i hl
                split at h
                · rename_i hget
                  unfold isGet at hget
                  rw [Bool.and_eq_true] at hget
                  have hm := beq_iff_eq.mp hget.1
                  subst hm
                  cases h
                  match args, hq, hs, hget with
                  | [a], hq, hs, _ =>
                    obtain ⟨y, ys, h3, h4, rfl⟩ := seqO_cons hq
                    cases h4
                    exact plain (fun _ => rfl) (de_get1 cx.room.rm.u100 hs.2 hl (by simpa using hs.1) (ih cx h2).1 (ih cx h3).1)
                  | [a, b], hq, hs, _ =>
                    obtain ⟨y, ys, h3, h4, rfl⟩ := seqO_cons hq
                    obtain ⟨z, zs, h5, h6, rfl⟩ := seqO_cons h4
                    cases h6
                    have hs1 : notStar a = true ∧ notStar b = true := by simpa using hs.1
                    exact plain (fun _ => rfl) (de_get2 cx.room.rm.u100 hs.2 hl hs1.1 hs1.2 (ih cx h2).1 (ih cx h3).1 (ih cx h5).1)
                  | [], _, _, hget => cases hget.2
                  | _ :: _ :: _ :: _, _, _, hget => cases hget.2
                match args, hq, hs with
                | [], hq, hs =>
                  cases hq
                  dsimp only at h
                  cases hb : cBm0 m with
                  | none => rw [hb] at h; cases h
                  | some b =>
                    rw [hb] at h
                    cases h
                    exact plain (fun _ => rfl) (de_bm0 cx.K (bm_rule0 cx.K hb) hs.2 hl (ih cx h2).1)
                | [a], hq, hs =>
                  obtain ⟨y, ys, h3, h4, rfl⟩ := seqO_cons hq
                  cases h4
                  dsimp only at h
                  cases hb : cBm1 m with
                  | none => rw [hb] at h; cases h
                  | some b =>
                    rw [hb] at h
                    cases h
                    by_cases hi : isIdx b = true
                    · have hm : m = "index" ∧ b = .index := by
                        rcases cBm1_cases hb with ⟨rfl, rfl⟩ | ⟨rfl, rfl⟩ | ⟨rfl, rfl⟩ | ⟨rfl, rfl⟩ | ⟨rfl, rfl⟩ | ⟨rfl, rfl⟩ | ⟨rfl, rfl⟩ <;> first | (cases hi; done) | exact ⟨rfl, rfl⟩
                      obtain ⟨rfl, rfl⟩ := hm
                      exact plain (fun _ => rfl) (de_index cx.K cx.room.rm.u100 hs.2 hl (by simpa using hs.1) (ih cx h2).1 (ih cx h3).1)
                    · exact plain (fun _ => rfl) (de_bm1 (fs := nilF) cx.K (bm_rule1 cx.K cx.room.rm.u100 hb (by simpa using hi)) hs.2 hl (by simpa using hs.1) (ih cx h2).1 (ih cx h3).1)
                | a :: b :: r, hq, hs =>
                  obtain ⟨y, ys, h3, h4, rfl⟩ := seqO_cons hq
                  obtain ⟨z, zs, h5, h6, rfl⟩ := seqO_cons h4
                  cases h
              · cases h
        · cases h
      | _ => cases h
  | ListComp elt gs scope pos =>
    match gs, h with
    | [⟨tg, iter, ifs, asy⟩], h =>
      dsimp only at h
      split at h
      · rename_i hb
        rw [Bool.and_eq_true, Bool.and_eq_true] at hb
        obtain ⟨hb, h0⟩ := hb
        have h0 := of_decide_eq_true h0
        subst h0
        generalize hcc : condE (cE { C with sc := relS scope C.sc, wr := some scope } n false) ifs = oc at h
        cases h1 : cE.cIt C n iter with
        | none => rw [h1] at h; cases h
        | some q =>
          obtain ⟨kk, its⟩ := q
          cases h2 : cTg { C with sc := relS scope C.sc, wr := some scope } n tg with
          | none => rw [h1, h2] at h; cases h
          | some t =>
            cases h3 : cE { C with sc := relS scope C.sc, wr := some scope } n cell elt with
            | none => rw [h1, h2, h3] at h; cases h
            | some el =>
              cases oc with
              | none => rw [h1, h2, h3] at h; cases h
              | some oc =>
                rw [h1, h2, h3] at h
                dsimp only at h
                split at h
                · rename_i hz
                  rw [Bool.and_eq_true] at hz
                  cases h
                  refine plain (fun _ => rfl) (de_lc cx.calm (by rw [cx.N]; exact cx.nd) (ihi cx h1 hz.2) (blkOk_by (by rw [cx.N, cx.sc]; exact hb.1))
                    (fun s H A cl fp => ((cx.blk scope s H A cl fp).tg n).1 h2 |>.1) (fun s H A cl fp => cond_ok ih (cx.blk scope s H A cl fp) hcc) (fun s H A cl fp => (ih (cx.blk scope s H A cl fp) h3).1)
                    (fun x => notset_ok hb.2 x) fun i hi => ?_)
                  have := List.all_eq_true.mp hz.1 i hi
                  simpa using this
                · cases h
      · cases h
    | [], h => cases h
    | ⟨_, _, _, _⟩ :: ⟨_, _, _, _⟩ :: _, h => cases h
  | _ => cases h
theorem cE_ok : ∀ n, POk n ∧ IOk n
  | 0 => by
    constructor
    · intro X C W G rc Es k cx cell e c h
      rw [cE.eq_def] at h
      cases h
    · intro X C W G rc Es k cx tg e kk its h
      rw [cE.cIt.eq_def] at h
      cases h
  | n + 1 => ⟨cE_step n (cE_ok n).1 (cE_ok n).2, cIt_ok n (cE_ok n).1⟩
end
end Z
end

section
set_option maxHeartbeats 1000000
/-! Z17: the compiled statements say what the text does. -/
namespace Z
open PySem L2
section
variable {X : Cx} {C : Cs} {W : Wd} {G : Gm} {rc : Nat → List Vl → Sto → Res Vl} {Es : SX} {k n : Nat}
theorem lc_parts {cell : Bool} {elt : Expr} {gs : List Comprehension} {scope : Scope} {pos : Pos} {c : Ex} (h : cE C (n + 1) cell (.ListComp elt gs scope pos) = some c) :
    ∃ tg iter ifs t kk its el oc, gs = [⟨tg, iter, ifs, 0⟩] ∧ c = .lc cell el t ((tgNames C n tg).map (·.2)) kk its oc ∧ blkB C scope (tgNames C n tg) = true ∧ notSet iter = true ∧ cE.cIt C n iter = some (kk, its) ∧
      cTg { C with sc := relS scope C.sc, wr := some scope } n tg = some t ∧ cE { C with sc := relS scope C.sc, wr := some scope } n cell elt = some el ∧ condE (cE { C with sc := relS scope C.sc, wr := some scope } n false) ifs = some oc ∧
      tgOk tg kk = true ∧ ∀ i ∈ t.slots, i ∈ (tgNames C n tg).map (·.2) := by
  rw [cE.eq_def] at h
  dsimp only at h
  match gs, h with
  | [⟨tg, iter, ifs, asy⟩], h =>
    dsimp only at h
    split at h
    · rename_i hb
      rw [Bool.and_eq_true, Bool.and_eq_true] at hb
      obtain ⟨hb, h0⟩ := hb
      have h0 := of_decide_eq_true h0
      subst h0
      generalize hcc : condE (cE { C with sc := relS scope C.sc, wr := some scope } n false) ifs = oc at h
      cases h1 : cE.cIt C n iter with
      | none => rw [h1] at h; cases h
      | some q =>
        obtain ⟨kk, its⟩ := q
        cases h2 : cTg { C with sc := relS scope C.sc, wr := some scope } n tg with
        | none => rw [h1, h2] at h; cases h
        | some t =>
          cases h3 : cE { C with sc := relS scope C.sc, wr := some scope } n cell elt with
          | none => rw [h1, h2, h3] at h; cases h
          | some el =>
            cases oc with
            | none => rw [h1, h2, h3] at h; cases h
            | some oc =>
              rw [h1, h2, h3] at h
              dsimp only at h
              split at h
              · rename_i hz
                rw [Bool.and_eq_true] at hz
                cases h
                exact ⟨tg, iter, ifs, t, kk, its, el, oc, rfl, rfl, hb.1, hb.2, by first | exact h1 | rfl, by first | exact h2 | rfl, by first | exact h3 | rfl, hcc, hz.2, fun i hi => by
                  have := List.all_eq_true.mp hz.1 i hi
                  simpa using this⟩
              · cases h
    · cases h
  | [], h => cases h
  | ⟨_, _, _, _⟩ :: ⟨_, _, _, _⟩ :: _, h => cases h
theorem dc_parts {cell : Bool} {ke ve : Expr} {gs : List Comprehension} {scope : Scope} {pos : Pos} {c : Ex} (h : cE C (n + 1) cell (.DictComp ke ve gs scope pos) = some c) :
    ∃ tg iter ifs t kk its el vl oc, gs = [⟨tg, iter, ifs, 0⟩] ∧ c = .dc cell el vl t ((tgNames C n tg).map (·.2)) kk its oc ∧ blkB C scope (tgNames C n tg) = true ∧ notSet iter = true ∧ cE.cIt C n iter = some (kk, its) ∧
      cTg { C with sc := relS scope C.sc, wr := some scope } n tg = some t ∧ cE { C with sc := relS scope C.sc, wr := some scope } n false ke = some el ∧ cE { C with sc := relS scope C.sc, wr := some scope } n false ve = some vl ∧ condE (cE { C with sc := relS scope C.sc, wr := some scope } n false) ifs = some oc ∧
      tgOk tg kk = true ∧ ∀ i ∈ t.slots, i ∈ (tgNames C n tg).map (·.2) := by
  rw [cE.eq_def] at h
  dsimp only at h
  match gs, h with
  | [⟨tg, iter, ifs, asy⟩], h =>
    dsimp only at h
    split at h
    · rename_i hb
      rw [Bool.and_eq_true, Bool.and_eq_true] at hb
      obtain ⟨hb, h0⟩ := hb
      have h0 := of_decide_eq_true h0
      subst h0
      generalize hcc : condE (cE { C with sc := relS scope C.sc, wr := some scope } n false) ifs = oc at h
      cases h1 : cE.cIt C n iter with
      | none => rw [h1] at h; cases h
      | some q =>
        obtain ⟨kk, its⟩ := q
        cases h2 : cTg { C with sc := relS scope C.sc, wr := some scope } n tg with
        | none => rw [h1, h2] at h; cases h
        | some t =>
          cases h3 : cE { C with sc := relS scope C.sc, wr := some scope } n false ke with
          | none => rw [h1, h2, h3] at h; cases h
          | some el =>
            cases h4 : cE { C with sc := relS scope C.sc, wr := some scope } n false ve with
            | none => rw [h1, h2, h3, h4] at h; cases h
            | some vl =>
              cases oc with
              | none => rw [h1, h2, h3, h4] at h; cases h
              | some oc =>
                rw [h1, h2, h3, h4] at h
                dsimp only at h
                split at h
                · rename_i hz
                  rw [Bool.and_eq_true] at hz
                  cases h
                  exact ⟨tg, iter, ifs, t, kk, its, el, vl, oc, rfl, rfl, hb.1, hb.2, by first | exact h1 | rfl, by first | exact h2 | rfl, by first | exact h3 | rfl, by first | exact h4 | rfl, hcc, hz.2, fun i hi => by
                    have := List.all_eq_true.mp hz.1 i hi
                    simpa using this⟩
                · cases h
    · cases h
  | [], h => cases h
  | ⟨_, _, _, _⟩ :: ⟨_, _, _, _⟩ :: _, h => cases h
theorem tDS_congr {f g : Env → Sto → RS} {st : Stmt} (h : ∀ ρ S, f ρ S = g ρ S) (q : PS X st (tDS W Es f)) : PS X st (tDS W Es g) := by
  have : f = g := funext fun ρ => funext fun S => h ρ S
  rw [← this]; exact q
theorem seq_nx (r : RS) : (r.seq fun ρ S => .nx ρ S) = r := by cases r <;> rfl
theorem exs_one {s : Z.St} {ρ : Env} {S : Sto} : exs G rc [s] ρ S = ex G rc s ρ S := seq_nx _
theorem exs_app (b : List Z.St) {ρ : Env} {S : Sto} : ∀ (a : List Z.St) {ρ : Env} {S : Sto}, exs G rc (a ++ b) ρ S = (exs G rc a ρ S).seq fun ρ S => exs G rc b ρ S
  | [], ρ, S => rfl
  | s :: a, ρ, S => by
    show (ex G rc s ρ S).seq (fun ρ S => exs G rc (a ++ b) ρ S) = ((ex G rc s ρ S).seq fun ρ S => exs G rc a ρ S).seq fun ρ S => exs G rc b ρ S
    cases ex G rc s ρ S with
    | nx ρ' S' => exact exs_app b (ρ := ρ) (S := S) a
    | _ => rfl
theorem frz_ok {st : Stmt} {s : Z.St} {l : Nat} (h : PS X st (tDS W Es (ex G rc s))) : PS X st (tDS W Es (exs G rc (frzAt C l ++ [s]))) := by
  unfold frzAt
  cases C.frz.lookup l with
  | none => exact tDS_congr (fun ρ S => exs_one.symm) h
  | some is =>
    refine tDS_congr (fun ρ S => ?_) (ds_frz (is := is) h)
    show frzF is (ex G rc s) ρ S = (ex G rc (.frz is) ρ S).seq fun ρ S => exs G rc [s] ρ S
    show frzF is (ex G rc s) ρ S = RS.seq (match frz is ρ S with | some (ρ, S) => .nx ρ S | none => .bad) fun ρ S => exs G rc [s] ρ S
    unfold frzF
    cases frz is ρ S with
    | none => rfl
    | some q => exact exs_one.symm
theorem tup_swap {e : Expr} (h : isTup e = false) {tg : Expr} {env : PySem.Env} : swappedStores [tg] e env = pure none := by
  cases e <;> first | (simp [isTup] at h; done) | (cases tg <;> rfl)
theorem name_swap {x : Str} {p : Pos} {e : Expr} {env : PySem.Env} : swappedStores [.Name x p] e env = pure none := rfl
theorem swS_of {e t : Expr} {l : Nat} {env : PySem.Env} (h : swapsWith e (some t) l env = pure false) : PySem.swapsWithSole [t] e l env = pure false := h
theorem sw_cell {x : Str} {px : Pos} {elt : Expr} {gs : List Comprehension} {scope : Scope} {p : Pos} {l : Nat} {env : PySem.Env} (h : ¬ env.scope.names.lookup x = some .local) : PySem.swapsWithSole [.Name x px] (.ListComp elt gs scope p) l env = pure false := by
  have h : ¬ (env.kindOf x = some .local) := h
  have e : (env.kindOf x == some .local) = false := by
    cases q : env.kindOf x with
    | none => rfl
    | some k =>
      cases k <;> first | rfl | exact absurd q h
  refine swS_of ?_
  unfold swapsWith
  simp [e]
theorem sw_cellD {x : Str} {px : Pos} {ke ve : Expr} {gs : List Comprehension} {scope : Scope} {p : Pos} {l : Nat} {env : PySem.Env} (h : ¬ env.scope.names.lookup x = some .local) : PySem.swapsWithSole [.Name x px] (.DictComp ke ve gs scope p) l env = pure false := by
  have h : ¬ (env.kindOf x = some .local) := h
  have e : (env.kindOf x == some .local) = false := by
    cases q : env.kindOf x with
    | none => rfl
    | some k =>
      cases k <;> first | rfl | exact absurd q h
  refine swS_of ?_
  unfold swapsWith
  simp [e]
/-- a written tuple of constants is unpacked as any other value -/
theorem fold_swap {x y : Str} {px py p p2 : Pos} {k k2 : Nat} {a b : Expr} {env : PySem.Env} (h : [a, b].all (foldedForSure 8) = true) : swappedStores [.Tuple [.Name x px, .Name y py] k p] (.Tuple [a, b] k2 p2) env = pure none := by
  unfold swappedStores
  dsimp only
  rw [h]
  repeat' first
    | rfl
    | split
theorem isTup_not {e : Expr} (h : (isTup e || isLc e) = false) : isTup e = false ∧ isLc e = false := by
  cases h1 : isTup e <;> cases h2 : isLc e <;> simp [h1, h2] at h ⊢

def SOk (n : Nat) : Prop := (∀ {X : Cx} {C : Cs} {W : Wd} {G : Gm} {rc : Nat → List Vl → Sto → Res Vl} {Es : SX} {k : Nat} (cx : Cxt X C W G rc Es k) {s : Stmt} {ss : List Z.St}, cS C n s = some ss → PS X s (tDS W Es (exs G rc ss))) ∧
  (∀ {X : Cx} {C : Cs} {W : Wd} {G : Gm} {rc : Nat → List Vl → Sto → Res Vl} {Es : SX} {k : Nat} (cx : Cxt X C W G rc Es k) {s : List Stmt} {ss : List Z.St}, cSs C n s = some ss → PSs X s (tDS W Es (exs G rc ss)))
theorem cSs_step (n : Nat) (ih : SOk n) {X : Cx} {C : Cs} {W : Wd} {G : Gm} {rc : Nat → List Vl → Sto → Res Vl} {Es : SX} {k : Nat} (cx : Cxt X C W G rc Es k) {s : List Stmt} {ss : List Z.St} (h : cSs C (n + 1) s = some ss) : PSs X s (tDS W Es (exs G rc ss)) := by
  rw [cSs.eq_def] at h
  cases s with
  | nil => cases h; exact dss_nil
  | cons s sts =>
    dsimp only at h
    cases h1 : cS C n s with
    | none => rw [h1] at h; cases h
    | some a =>
      cases h2 : cSs C n sts with
      | none => rw [h1, h2] at h; cases h
      | some b =>
        rw [h1, h2] at h
        cases h
        have e : exs G rc (a ++ b) = fun ρ S => (exs G rc a ρ S).seq fun ρ S => exs G rc b ρ S := funext fun ρ => funext fun S => exs_app b (ρ := ρ) (S := S) a
        rw [e]
        exact dss_cons (ih.1 cx h1) (ih.2 cx h2)
theorem cS_step (n : Nat) (ih : SOk n) {X : Cx} {C : Cs} {W : Wd} {G : Gm} {rc : Nat → List Vl → Sto → Res Vl} {Es : SX} {k : Nat} (cx : Cxt X C W G rc Es k) {s : Stmt} {ss : List Z.St} (h : cS C (n + 1) s = some ss) : PS X s (tDS W Es (exs G rc ss)) := by
  have ihe : POk n := (cE_ok n).1
  have ihi : IOk n := (cE_ok n).2
  rw [cS.eq_def] at h
  dsimp only at h
  cases s with
  | Pass pos => cases h; exact tDS_congr (fun ρ S => exs_one.symm) ds_pass
  | Break pos => cases h; exact tDS_congr (fun ρ S => exs_one.symm) ds_break
  | Continue pos => cases h; exact tDS_congr (fun ρ S => exs_one.symm) ds_cont
  | Raise a b pos => cases h; exact tDS_congr (fun ρ S => exs_one.symm) ds_stop
  | Return e pos =>
    cases e with
    | none =>
      cases h
      exact frz_ok ds_retN
    | some e =>
      dsimp only at h
      cases h1 : cE C n C.retc e with
      | none => rw [h1] at h; cases h
      | some c =>
        rw [h1] at h
        cases h
        exact frz_ok (ds_ret (ihe cx h1).1)
  | Expr e pos =>
    dsimp only at h
    split at h
    · cases h
    · rename_i hl
      cases h1 : cE C n false e with
      | none => rw [h1] at h; cases h
      | some c =>
        rw [h1] at h
        cases h
        exact frz_ok (ds_expr (by simpa using hl) (ihe cx h1).1)
  | AugAssign tg op e pos =>
    cases tg with
    | Name x px =>
      dsimp only at h
      cases h1 : findN C.N x with
      | none => rw [h1] at h; cases h
      | some i =>
        cases h2 : cOp op with
        | none => rw [h1, h2] at h; cases h
        | some o =>
          cases h3 : cE C n false e with
          | none => rw [h1, h2, h3] at h; cases h
          | some c =>
            rw [h1, h2, h3] at h
            dsimp only at h
            split at h
            · rename_i hb
              rw [Bool.and_eq_true] at hb
              cases h
              exact frz_ok (ds_aug h2 (by rw [cx.N]; exact cx.nd) (by rw [cx.N]; exact findN_at h1) (by rw [cx.sc]; exact loc_of hb.1) (by rw [cx.sc]; exact cx.fn x (loc_of hb.1) hb.2) (ihe cx h3).1)
            · cases h
    | Attribute o f px =>
      dsimp only at h
      cases h1 : cE C n false o with
      | none => rw [h1] at h; cases h
      | some o' =>
        cases h2 : C.fl.lookup f with
        | none => rw [h1, h2] at h; cases h
        | some q =>
          obtain ⟨k0, cs⟩ := q
          cases h3 : cOp op with
          | none => rw [h1, h2, h3] at h; cases h
          | some b =>
            cases h4 : cE C n false e with
            | none => rw [h1, h2, h3, h4] at h; cases h
            | some c =>
              rw [h1, h2, h3, h4] at h
              dsimp only at h
              split at h
              · rename_i hb
                rw [Bool.and_eq_true] at hb
                cases h
                have hf := (cx.fl f k0 cs h2).mono (rcvOk C o)
                generalize cs.filter (rcvOk C o) = cs at hb hf ⊢
                match cs, hb, hf with
                | [c0], hb, hf => exact frz_ok (ds_fldaug hf h3 (ihe cx h1).1 (ihe cx h4).1)
                | [], hb, _ => cases hb.2
                | _ :: _ :: _, hb, _ => cases hb.2
              · cases h
    | Subscript d i px =>
      dsimp only at h
      split at h
      · cases h
      · rename_i hsl
        cases h1 : cE C n false d with
        | none => rw [h1] at h; cases h
        | some d' =>
          cases h2 : cE C n false i with
          | none => rw [h1, h2] at h; cases h
          | some i' =>
            cases h3 : cOp op with
            | none => rw [h1, h2, h3] at h; cases h
            | some b =>
              cases h4 : cE C n false e with
              | none => rw [h1, h2, h3, h4] at h; cases h
              | some c =>
                rw [h1, h2, h3, h4] at h
                cases h
                exact frz_ok (ds_daug cx.room.rm.u100 (by simpa using hsl) h3 (ihe cx h1).1 (ihe cx h2).1 (ihe cx h4).1)
    | _ => cases h
  | If c a b pos =>
    dsimp only at h
    cases h1 : cE C n false c with
    | none => rw [h1] at h; cases h
    | some c' =>
      cases h2 : cSs C n a with
      | none => rw [h1, h2] at h; cases h
      | some a' =>
        cases h3 : cSs C n b with
        | none => rw [h1, h2, h3] at h; cases h
        | some b' =>
          rw [h1, h2, h3] at h
          cases h
          exact frz_ok (ds_if (ihe cx h1).2 (ih.2 cx h2) (ih.2 cx h3))
  | While c b el pos =>
    cases el with
    | cons _ _ => cases h
    | nil =>
      dsimp only at h
      cases h1 : cE C n false c with
      | none => rw [h1] at h; cases h
      | some c' =>
        cases h2 : cSs C n b with
        | none => rw [h1, h2] at h; cases h
        | some b' =>
          rw [h1, h2] at h
          cases h
          exact frz_ok (ds_while cx.own (ihe cx h1).2 (ih.2 cx h2))
  | For tg it b el pos =>
    cases el with
    | cons _ _ => cases h
    | nil =>
      dsimp only at h
      cases h1 : cTg C n tg with
      | none => rw [h1] at h; cases h
      | some t =>
        cases h2 : cE.cIt C n it with
        | none => rw [h1, h2] at h; cases h
        | some q =>
          obtain ⟨kk, its⟩ := q
          cases h3 : cSs C n b with
          | none => rw [h1, h2, h3] at h; cases h
          | some b' =>
            rw [h1, h2, h3] at h
            dsimp only at h
            split at h
            · rename_i hz
              rw [Bool.and_eq_true] at hz
              cases h
              exact frz_ok (ds_for cx.own cx.calm (ihi cx h2 hz.1) ((cx.tg n).1 h1).1 (ih.2 cx h3) fun x => notset_ok hz.2 x)
            · cases h
  | Assign tgs e pos =>
    match tgs, h with
    | [], h => cases h
    | [tg], h =>
      cases tg with
      | Name x px =>
        dsimp only at h
        cases h1 : findN C.N x with
        | none => rw [h1] at h; cases h
        | some i =>
          rw [h1] at h
          dsimp only at h
          split at h
          · rename_i hb
            rw [Bool.and_eq_true, Bool.and_eq_true] at hb
            obtain ⟨⟨hb1, hb2⟩, hb3⟩ := hb
            cases h2 : cE C n (C.cells.contains x) e with
            | none => rw [h2] at h; cases h
            | some c =>
              rw [h2] at h
              cases h
              refine frz_ok ?_
              have plain : PySem.swapsWithSole [.Name x px] e pos.line X.env = pure false → PS X (.Assign [.Name x px] e pos) (tDS W Es (ex G rc (.asg (.var i) c))) := fun hl =>
                ds_asg hl name_swap rfl (ihe cx h2).1 (dg_var (by rw [cx.N]; exact cx.nd) (by rw [cx.N]; exact findN_at h1) (by rw [cx.sc]; exact loc_of hb1) (by rw [cx.sc]; exact cx.fn x (loc_of hb1) hb2))
              cases e with
              | ListComp elt gs scope p =>
                by_cases hloc : C.sc.names.lookup x = some .local
                case neg => exact plain (sw_cell (by rw [cx.sc]; exact hloc))
                clear plain
                cases n with
                | zero => rw [cE.eq_def] at h2; cases h2
                | succ n =>
                  obtain ⟨tg, iter, ifs, t, kk, its, el, oc, rfl, rfl, z1, z2, z3, z4, z5, z6, z7, z8⟩ := lc_parts h2
                  have ihe : POk n := (cE_ok n).1
                  have ihi : IOk n := (cE_ok n).2
                  simp only [lcOk, hloc, Bool.and_eq_true, Bool.not_eq_true'] at hb3
                  obtain ⟨⟨y2, y3⟩, y4⟩ := hb3
                  have y1 := hloc
                  have y3 : C.sc.kind = .function := by
                    split at y3
                    · assumption
                    · cases y3
                  exact ds_asgLc cx.calm (by rw [cx.N]; exact cx.nd) (by rw [cx.N]; exact findN_at h1) (by rw [cx.sc]; exact y1) (sw_true (by rw [cx.sc]; exact y3) (by rw [cx.sc]; exact y1) y2 y4) (ihi cx z3 z7) (blkOk_by (by rw [cx.N, cx.sc]; exact z1))
                    (fun s H A cl fp => ((cx.blk scope s H A cl fp).tg n).1 z4 |>.1) (fun s H A cl fp => cond_ok ihe (cx.blk scope s H A cl fp) z6) (fun s H A cl fp => (ihe (cx.blk scope s H A cl fp) z5).1)
                    (fun x => notset_ok z2 x) z8
              | DictComp ke ve gs scope p =>
                by_cases hloc : C.sc.names.lookup x = some .local
                case neg => exact plain (sw_cellD (by rw [cx.sc]; exact hloc))
                clear plain
                cases n with
                | zero => rw [cE.eq_def] at h2; cases h2
                | succ n =>
                  obtain ⟨tg, iter, ifs, t, kk, its, el, vl, oc, rfl, rfl, z1, z2, z3, z4, z5, z5', z6, z7, z8⟩ := dc_parts h2
                  have ihe : POk n := (cE_ok n).1
                  have ihi : IOk n := (cE_ok n).2
                  simp only [lcOk, hloc, Bool.and_eq_true, Bool.not_eq_true'] at hb3
                  obtain ⟨⟨y2, y3⟩, y4⟩ := hb3
                  have y1 := hloc
                  have y3 : C.sc.kind = .function := by
                    split at y3
                    · assumption
                    · cases y3
                  exact ds_asgDc cx.calm (by rw [cx.N]; exact cx.nd) (by rw [cx.N]; exact findN_at h1) (by rw [cx.sc]; exact y1) (sw_dc (by rw [cx.sc]; exact y3) (by rw [cx.sc]; exact y1) y2 y4) (ihi cx z3 z7) (blkOk_by (by rw [cx.N, cx.sc]; exact z1))
                    (fun s H A cl fp => ((cx.blk scope s H A cl fp).tg n).1 z4 |>.1) (fun s H A cl fp => cond_ok ihe (cx.blk scope s H A cl fp) z6) (fun s H A cl fp => (ihe (cx.blk scope s H A cl fp) z5).1) (fun s H A cl fp => (ihe (cx.blk scope s H A cl fp) z5').1)
                    (fun x => notset_ok z2 x) z8
              | _ => exact plain (swS_not (by simpa [lcOk] using hb3))
          · cases h
      | Tuple ts kk p =>
        dsimp only at h
        cases hpar : parOf ts e with
        | some q =>
          obtain ⟨x, px, y, py, a, b⟩ := q
          rw [hpar] at h
          dsimp only at h
          have hpo := parOf_some hpar
          split at h
          · rename_i hf
            obtain ⟨rfl, k2, pt2, rfl⟩ := hpo
            cases h1 : cTg C n (.Tuple [.Name x px, .Name y py] kk p) with
            | none => rw [h1] at h; cases h
            | some t =>
              cases h2 : cE C n false (.Tuple [a, b] k2 pt2) with
              | none => rw [h1, h2] at h; cases h
              | some c =>
                rw [h1, h2] at h
                cases h
                exact frz_ok (ds_asg (swS_not rfl) (fold_swap hf) rfl (ihe cx h2).1 ((cx.tg n).1 h1).1)
          cases h1 : findN C.N x with
          | none => rw [h1] at h; cases h
          | some i =>
            cases h2 : findN C.N y with
            | none => rw [h1, h2] at h; cases h
            | some j =>
              cases h3 : cE C n false a with
              | none => rw [h1, h2, h3] at h; cases h
              | some a' =>
                cases h4 : cE C n false b with
                | none => rw [h1, h2, h3, h4] at h; cases h
                | some b' =>
                  rw [h1, h2, h3, h4] at h
                  dsimp only at h
                  split at h
                  · rename_i hb
                    cases h
                    unfold parB at hb
                    simp only [Bool.and_eq_true, Bool.not_eq_true'] at hb
                    obtain ⟨⟨⟨⟨⟨⟨⟨⟨⟨⟨hne, hx⟩, hy⟩, hox⟩, hoy⟩, hs1⟩, hs2⟩, hln⟩, hk⟩, hf1⟩, hf2⟩ := hb
                    have hx : C.sc.names.lookup x = some .local := by split at hx <;> first | assumption | cases hx
                    have hy : C.sc.names.lookup y = some .local := by split at hy <;> first | assumption | cases hy
                    have hk : C.sc.kind = .function := by split at hk <;> first | assumption | cases hk
                    have hij : i ≠ j := fun z => by
                      have e1 := findN_at h1
                      have e2 := findN_at h2
                      rw [z, e2] at e1
                      cases e1
                      simp at hne
                    rw [← cx.sc] at hx hy hk
                    obtain ⟨rfl, k2, pt2, rfl⟩ := hpo
                    exact frz_ok (ds_par cx.calm (by rw [cx.N]; exact cx.nd) (by rw [cx.N]; exact findN_at h1) (by rw [cx.N]; exact findN_at h2) hij hx hy (swap_of hk hx hy hne hln hs1 hs2 hf1 hf2) hs1 hs2 (ihe cx h3).1 (ihe cx h4).1)
                  · cases h
        | none =>
        rw [hpar] at h
        dsimp only at h
        split at h
        · cases h
        · rename_i hl
          obtain ⟨l1, l2⟩ := isTup_not (by simpa using hl)
          cases h1 : cTg C n (.Tuple ts kk p) with
          | none => rw [h1] at h; cases h
          | some t =>
            cases h2 : cE C n false e with
            | none => rw [h1, h2] at h; cases h
            | some c =>
              rw [h1, h2] at h
              cases h
              exact frz_ok (ds_asg (swS_not l2) (tup_swap l1) rfl (ihe cx h2).1 ((cx.tg n).1 h1).1)
      | Subscript o i p =>
        dsimp only at h
        split at h
        · cases h
        · rename_i hl
          have hl : isLc e = false ∧ isSl i = false := by
            cases q1 : isLc e <;> cases q2 : isSl i <;> simp [q1, q2] at hl ⊢
          cases h1 : cE C n false o with
          | none => rw [h1] at h; cases h
          | some o' =>
            cases h2 : cE C n false i with
            | none => rw [h1, h2] at h; cases h
            | some i' =>
              cases h3 : cE C n false e with
              | none => rw [h1, h2, h3] at h; cases h
              | some c =>
                rw [h1, h2, h3] at h
                cases h
                exact frz_ok (ds_sub cx.room.rm.u100 hl.1 hl.2 (ihe cx h1).1 (ihe cx h2).1 (ihe cx h3).1)
      | Attribute o f p =>
        dsimp only at h
        split at h
        · cases h
        · rename_i hl
          have hl : isLc e = false ∧ noSuper o = true := by
            cases q1 : isLc e <;> cases q2 : noSuper o <;> simp [q1, q2] at hl ⊢
          cases h1 : cE C n false o with
          | none => rw [h1] at h; cases h
          | some o' =>
            cases h2 : C.fl.lookup f with
            | none => rw [h1, h2] at h; cases h
            | some q =>
              obtain ⟨k0, cs⟩ := q
              cases h3 : cE C n (C.fcells.contains f) e with
              | none => rw [h1, h2, h3] at h; cases h
              | some c =>
                rw [h1, h2, h3] at h
                cases h
                exact frz_ok (ds_fld ((cx.fl f k0 cs h2).mono _) hl.1 (ihe cx h1).1 (ihe cx h3).1)
      | _ => cases h
    | t :: _ :: _, h => cases t <;> cases h
  | _ => cases h
theorem cS_ok : ∀ n, SOk n
  | 0 => by
    constructor
    · intro X C W G rc Es k cx s ss h
      rw [cS.eq_def] at h
      cases h
    · intro X C W G rc Es k cx s ss h
      rw [cSs.eq_def] at h
      cases s with
      | nil => cases h; exact dss_nil
      | cons _ _ => cases h
  | n + 1 => by
    constructor
    · intro X C W G rc Es k cx s ss h
      exact cS_step n (cS_ok n) cx h
    · intro X C W G rc Es k cx s ss h
      exact cSs_step n (cS_ok n) cx h
end
end Z
end

section
set_option maxHeartbeats 1000000
/-! Z18: defs. -/
namespace Z
open PySem L2
section
variable {W : Wd} {E : XK} {α α' : Nat → Addr} {F F' : Hp} {S S' : Sto} {H H' : Hp}
theorem below_vl {N : Nat} {x : Vl} {v : V} {M : Nat} (h : Vl.below N x = true) (r : VlR W α F M x v) : VlR W α F N x v := by
  cases x with
  | d x => exact r
  | p m => exact ⟨r.1, of_decide_eq_true h⟩
theorem below_vls {N M : Nat} {xs : List Vl} {vs : List V} (r : VlRs W α F M xs vs) : xs.all (Vl.below N) = true → VlRs W α F N xs vs := by
  induction r with
  | nil => intro _; exact .nil
  | cons a _ ih =>
    intro h
    rw [List.all_cons, Bool.and_eq_true] at h
    exact .cons (below_vl h.1 a) (ih h.2)
theorem below_cell {N M : Nat} {a : Addr} {c : Cell} (h : c.below N = true) (r : CellOk W α F M H a c) : CellOk W α F N H a c := by
  cases c with
  | dead => trivial
  | lst xs =>
    obtain ⟨vs, e, r⟩ := r
    exact ⟨vs, e, below_vls r h⟩
  | dct t kvs =>
    obtain ⟨ws, e, r⟩ := r
    refine ⟨ws, e, below_vls r ?_⟩
    rw [List.all_map]
    exact h
  | ins c fs =>
    obtain ⟨dx, vs, e, r⟩ := r
    refine ⟨dx, vs, e, below_vls r ?_⟩
    rw [List.all_map]
    exact h
theorem close_ok {v : Vl} {Q : V → Hp → Prop} (p : Post W E (VlX W) α F S H (leave.close S v S') Q) (x : Ext α F S H α' F' S' H') (s : Sr W α' F' S' H') {w : V} (r : VlR W α' F' S'.length v w) : Q w H' := by
  unfold leave.close at p
  dsimp only at p
  split at p
  · rename_i hz
    rw [Bool.and_eq_true, Bool.and_eq_true] at hz
    obtain ⟨hl, hc, hv⟩ := (⟨beq_iff_eq.mp hz.1.1, hz.1.2, hz.2⟩ : _ ∧ _ ∧ _)
    have sub : ∀ n c, (S'.take S.length)[n]? = some c → S'[n]? = some c ∧ n < S.length := fun n c h => by
      have hn := (List.getElem?_eq_some_iff.mp h).1
      rw [hl] at hn
      rw [List.getElem?_take_of_lt hn] at h
      exact ⟨h, hn⟩
    have lv : ∀ n, Live (S'.take S.length) n → Live S' n := fun n ⟨c, h, d⟩ => ⟨c, (sub n c h).1, d⟩
    refine p w α' F' H' ⟨x.al, by rw [hl]; exact Nat.le_refl _, x.fr, x.frame, fun n h1 h2 => by rw [hl] at h2; omega, fun n h l => x.lv n h (lv n l), x.dom, x.fz⟩ ⟨s.sub, fun n l => s.sep n (lv n l), fun m n lm ln => s.inj m n (lv m lm) (lv n ln), fun n c h => ?_⟩ ?_
    · obtain ⟨h1, h2⟩ := sub n c h
      have hb := List.all_eq_true.mp hc c (List.mem_iff_getElem?.mpr ⟨n, h⟩)
      rw [hl]
      exact below_cell hb (s.cel n c h1)
    · show VlR W α' F' (S'.take S.length).length v w
      rw [hl]
      exact below_vl hv r
  · exact p.elim
theorem leave_ok {keep : Bool} {v : Vl} {Q : V → Hp → Prop} (p : Post W E (VlX W) α F S H (leave keep S v S') Q) (x : Ext α F S H α' F' S' H') (s : Sr W α' F' S' H') {w : V} (r : VlR W α' F' S'.length v w) : Q w H' := by
  unfold leave at p
  split at p
  · exact p w α' F' H' x s r
  · split at p
    · rename_i n
      split at p
      · exact close_ok p x s r
      · cases hf : freeze (.p n) S' with
        | none => rw [hf] at p; exact p.elim
        | some q =>
          obtain ⟨d, S2⟩ := q
          rw [hf] at p
          dsimp only at p
          obtain ⟨F2, s2, x2, rp⟩ := s.freeze r hf
          exact close_ok p (x.trans x2) s2 rp
    · exact close_ok p x s r
end

/-- a state without cells -/
theorem Sr.none {W : Wd} {α : Nat → Addr} {F : Hp} {S : Sto} {H : Hp} (s : Sr W α F S H) : Sr W α F [] H :=
  ⟨s.sub, fun n ⟨c, e, _⟩ => by simp at e, fun m n ⟨c, e, _⟩ => by simp at e, fun n c e => by simp at e⟩
theorem VlRs.datas {W : Wd} {α : Nat → Addr} {F : Hp} {N M : Nat} {xs : List Vl} {vs : List V} (r : VlRs W α F N xs vs) : xs.all dataO = true → VlRs W α F M xs vs := by
  induction r with
  | nil => intro _; exact .nil
  | @cons x v xs vs a _ ih =>
    intro h
    rw [List.all_cons, Bool.and_eq_true] at h
    refine .cons ?_ (ih h.2)
    cases x with
    | d x => exact a
    | p n => exact absurd (show false = true from h.1) Bool.false_ne_true
/-- back from a piece of work that saw none of our cells -/
theorem Sr.back {W : Wd} {α α' : Nat → Addr} {F F' : Hp} {S S' : Sto} {H H' : Hp} (s : Sr W α F S H) (x : Ext α F [] H α' F' S' H') (s' : Sr W α' F' S' H') : Sr W α F' S H' ∧ Ext α F S H α F' S H' := by
  have fr : ∀ a o, H a = some o → H' a = some o := fun a o h => x.frame a o h fun n ⟨c, e, _⟩ => by simp at e
  refine ⟨⟨s'.sub, fun n l => ?_, s.inj, fun n c e => (s.cel n c e).mono (fun _ _ => rfl) (Nat.le_refl _) x.fr fun _ o h => fr _ _ h⟩, ⟨fun _ _ => rfl, Nat.le_refl _, x.fr, fun a o h _ => fr a o h, fun n h1 h2 => absurd (Nat.lt_of_lt_of_le h2 h1) (Nat.lt_irrefl _), fun _ _ h => h, x.dom, fun a o h h' => ?_⟩⟩
  · cases q : F' (α n) with
    | none => rfl
    | some o =>
      obtain ⟨u, hu⟩ := s.there l
      rcases x.fz _ o q (s.sep n l) with z | ⟨m, ⟨c, e, _⟩, _⟩
      · rw [hu] at z; cases z
      · simp at e
  · rcases x.fz a o h h' with z | ⟨m, ⟨c, e, _⟩, _⟩
    · exact .inl z
    · simp at e
theorem goOut_ok {W : Wd} {E : XK} {α α' : Nat → Addr} {F F' : Hp} {S S' : Sto} {H H' : Hp} {v : Vl} {Q : V → Hp → Prop} (s : Sr W α F S H) (p : Post W E (VlX W) α F S H (goOut S v S') Q) (x : Ext α F [] H α' F' S' H') (s' : Sr W α' F' S' H') {w : V} (r : VlR W α' F' S'.length v w) : Q w H' := by
  unfold goOut at p
  cases hf : freeze v S' with
  | none => rw [hf] at p; exact p.elim
  | some q =>
    obtain ⟨d, S2⟩ := q
    rw [hf] at p
    dsimp only at p
    have fin : ∀ {F2 S2}, Ext α F [] H α' F2 S2 H' → Sr W α' F2 S2 H' → Rp W F2 d w → Q w H' := fun {F2 S2} x2 s2 rp => by
      obtain ⟨s3, x3⟩ := s.back x2 s2
      exact p w α F2 H' x3 s3 rp
    obtain ⟨F2, s2, x2, rp⟩ := s'.freeze r hf
    exact fin (x.trans x2) s2 rp
/-- a def of the text, its number, its compiled body -/
structure DefOk (K : PySem.W.Frag) (mg : Str → Option Value) (W : Wd) (G : Gm) (f : Nat) (d : Df) (C : Cs) (n : Nat) (x qual : Str) (st : Stmt) (fd : FuncData) (ps : List Str) : Prop where
  fn : Fun K x qual st (W.fa f) fd
  sp : FnScope C.N ps (defScope st)
  sc : C.sc = defScope st
  wr : C.wr = none
  cs : cSs C n (defBody st) = some d.body
  sl : d.slots = C.N.length
  pr : d.params = ps.length
  bi : d.kw = false → Binds K fd ps []
  kb : ∀ q ∈ d.kws, KB K W fd ps q
/-- what stands at the module's level -/
structure ModOk (K : PySem.W.Frag) (mg : Str → Option Value) (W : Wd) (G : Gm) (C : Cs) : Prop where
  gb : ∀ x, x ∈ C.gb → mg x = none
  gd : ∀ x f, C.gd.lookup x = some f → mg x = some (.ref (W.fa f)) ∧ ∃ d, G.defs f = some d ∧ d.init = false ∧ d.kw = false
  gc : ∀ x g, C.gc.lookup x = some g → ∃ v u, mg x = some u ∧ RelV v u ∧ ∀ F, Rp W F (G.con g) v
  fl : ∀ f i cs, C.fl.lookup f = some (i, cs) → FldOk K W f i cs
  mt : ∀ m tab, C.mt.lookup m = some tab → (∀ j, W.nm j ≠ m) ∧ ∀ p ∈ tab, Cls K (W.ca p.1) ∧ Meth K (W.ca p.1) m (W.fa p.2) ∧ ∃ d, G.defs p.2 = some d ∧ d.init = false ∧ d.kw = false
  cls : ∀ x c f, C.cls.lookup x = some (c, f) → Mk K (W.ca c) (W.fa f) ∧ mg x = some (.ref (W.ca c)) ∧ ∃ d, G.defs f = some d ∧ d.init = true ∧ d.kw = false
  gg : ∀ x, x ∈ C.gg → mg x = some (.builtin "math.gcd")
  kd : ∀ x f ss, C.kd.lookup x = some (f, ss) → mg x = some (.ref (W.fa f)) ∧ ∃ d, G.defs f = some d ∧ d.init = false ∧ d.kws = ss
theorem start_env {W : Wd} {α : Nat → Addr} {F : Hp} {N : Nat} {as : List Vl} {vs : List V} (r : VlRs W α F N as vs) {names : List Str} : EnvR W α F N (as.map some ++ List.replicate (names.length - as.length) none) (L2.start names vs) := by
  have hl := r.length
  unfold L2.start
  rw [← hl]
  refine ⟨by simp [hl], fun i v h => ?_⟩
  by_cases hi : i < as.length
  · rw [List.getElem?_append_left (by simpa using hi), List.getElem?_map] at h
    cases q : as[i]? with
    | none => rw [q] at h; cases h
    | some y =>
      rw [q] at h
      cases h
      obtain ⟨w, e, rr⟩ := r.get q
      exact ⟨w, by rw [List.getElem?_append_left (by rw [List.length_map, ← hl]; exact hi), List.getElem?_map, e]; rfl, rr⟩
  · rw [List.getElem?_append_right (by simpa using hi)] at h
    have := List.mem_iff_getElem?.mpr ⟨_, h⟩
    simp at this
/-- a call's shape, of a def with keyword-only parameters alone -/
theorem kb_mk {K : PySem.W.Frag} {W : Wd} {x qual : Str} {st : Stmt} {kD : Addr} {doc pm cdv ct : Value} {an : Option Addr} {ps : List Str} (q : Nat × List Str × List (Option D)) (ms : List (Str × V)) (hm : ∀ p ∈ ms, ∃ u, PySem.W.nsIn K kD p.1 = some (some u) ∧ RelV p.2 u) (hr : ∀ F, Rps W F (q.2.2.filterMap id) (ms.map (·.2))) (hh : holes q.2.2 = q.2.1.length)
    (h : ∀ us mv ws : List Value, us.length = q.1 → mv.length = ms.length → ws.length = q.2.1.length → KwChain kD ((ms.map (·.1)).zip mv) (bindArgs (PySem.W.fnOf x qual (defArgs st) (defBody st) (defScope st) .none (.ref kD) doc pm an cdv ct) ⟨us, q.2.1.zip ws⟩) (ps.zip (us ++ fillG q.2.2 mv ws))) :
    KB K W (PySem.W.fnOf x qual (defArgs st) (defBody st) (defScope st) .none (.ref kD) doc pm an cdv ct) ps q := by
  obtain ⟨mv, hl, rk, hks⟩ := kwd_vals hm
  refine ⟨mv, ms.map (·.2), hr, hh, ⟨fun s us ws X l1 l2 => BindsTo.of_looks fun M => KwChain.looks X hks (h us mv ws l1 hl l2), fun {vs us zs ws} r1 r2 => r1.append ?_⟩⟩
  have key : ∀ (q : List (Option D)) {mz zs : List V} {mv ws : List Value}, Vals mz mv → Vals zs ws → Vals (fillG q mz zs) (fillG q mv ws) := by
    intro q
    induction q with
    | nil => intro mz zs mv ws _ _; exact .nil
    | cons o q ih =>
      intro mz zs mv ws r1 r2
      cases o with
      | some d =>
        cases r1 with
        | nil => exact .nil
        | cons h t => exact .cons h (ih t r2)
      | none =>
        cases r2 with
        | nil => cases r1 <;> exact .nil
        | cons h t => cases r1 with
          | nil => exact .cons h (ih .nil t)
          | cons a b => exact .cons h (ih (.cons a b) t)
  exact key q.2.2 rk r2
/-- the level of a def -/
def lev (d : Df) (k : Nat) : Nat := if d.init then k else k + 1
section
variable {P : Program} {w : World} {K : PySem.W.Frag} {mg : Str → Option Value} {base : Heap} {W : Wd} {G : Gm}
/-- all defs, run to the depth k -/
def AllOk (P : Program) (w : World) (K : PySem.W.Frag) (mg : Str → Option Value) (base : Heap) (W : Wd) (G : Gm) (k : Nat) : Prop :=
  ∀ f d, G.defs f = some d → ∃ fd ps, FnG P w K mg base (lev d k) (W.fa f) fd ps (spF W (run G k) f) ∧ PySem.W.keepIn K (.ref (W.fa f)) = true ∧ (d.kw = false → Binds K fd ps []) ∧ ∀ q ∈ d.kws, KB K W fd ps q
theorem cxt_of (hK : W.K = K) (hW : W.w = w) {k f : Nat} (A0 : AllOk P w K mg base W G k) {d : Df} {C : Cs} {n : Nat} {x qual : Str} {st : Stmt} {fd : FuncData} {ps : List Str} (D : DefOk K mg W G f d C n x qual st fd ps) (M : ModOk K mg W G C) {cdv : Value} {A : Around} {outer : List PySem.Env} {s : Shared} {H : Hp} {E : XK}
    (hr : RoomB (k + 1) (A.deeper (PyProof.Rows.envOfC qual (defScope st) s.heap.objs.size (W.fa f) cdv))) : Cxt (cxG P w K mg base C.N qual (defScope st) (W.fa f) cdv A outer s H E) C W G (run G k) (fun _ => E) (k + 1) where
  K := hK
  calm := rfl
  sc := D.sc.symm
  N := rfl
  nd := D.sp.nd
  fn := fun _ _ _ => .inl rfl
  room := hr
  gb := M.gb
  gd := fun y g e => by
    obtain ⟨m1, d', hg, hi, hw⟩ := M.gd y g e
    obtain ⟨fd', ps', F, kp, b, _⟩ := A0 g d' hg
    rw [lev, hi] at F
    exact ⟨fd', ps', F, m1, kp, b hw⟩
  gc := M.gc
  w := hW
  fl := M.fl
  mt := fun m tab e => by
    obtain ⟨h1, h2⟩ := M.mt m tab e
    refine ⟨h1, fun p hp => ?_⟩
    obtain ⟨c, me, d', hg, hi, hw⟩ := h2 p hp
    obtain ⟨fd', ps', F, kp, b, _⟩ := A0 p.2 d' hg
    rw [lev, hi] at F
    exact ⟨c, me, fd', ps', F, b hw⟩
  cls := fun y c g e => by
    obtain ⟨M1, m1, d', hg, hi, hw⟩ := M.cls y c g e
    obtain ⟨fd', ps', F, kp, b, _⟩ := A0 g d' hg
    rw [lev, hi] at F
    exact ⟨k, fd', ps', Nat.le_refl _, M1, F, m1, b hw⟩
  hv := fun g e => by
    unfold Gm.callable at e
    cases hg : G.defs g with
    | none => rw [hg] at e; cases e
    | some d' =>
      rw [hg] at e
      obtain ⟨fd', ps', F, kp, b, _⟩ := A0 g d' hg
      have e : d'.init = false ∧ d'.kw = false := by simpa using e
      rw [lev, e.1] at F
      exact ⟨fd', ps', F, kp, b e.2⟩
  gg := M.gg
  kd := fun y g ss e => by
    obtain ⟨m1, d', hg, hi, hs⟩ := M.kd y g ss e
    obtain ⟨fd', ps', F, kp, _, b⟩ := A0 g d' hg
    rw [lev, hi] at F
    exact ⟨fd', ps', F, m1, kp, by rw [← hs]; exact b⟩
  pas := fun σ => passAt (takes_of rfl rfl rfl rfl) σ
  own := passes_of rfl
theorem fun_g {x qual : Str} {st : Stmt} {f : Addr} {fd : FuncData} {N ps : List Str} {k : Nat} {sp : Sp} (Fn : Fun K x qual st f fd) (sc : FnScope N ps (defScope st)) (len : ∀ us H Q E, sp us H Q E → us.length = ps.length)
    (bd : ∀ (cdv : Value) (A : Around) (up : List PySem.Env) (s : Shared) (H : Hp) (us : List V) (Q : VK) (E : XK), RoomB k (A.deeper (PyProof.Rows.envOfC qual (defScope st) s.heap.objs.size f cdv)) → sp us H Q E →
      ∃ t, PSs (cxG P w K mg base N qual (defScope st) f cdv A up s H E) (defBody st) t ∧ t { nx := fun _ H' => Q .non H', rt := Q } (L2.start N us) H) : FnG P w K mg base (k + 1) f fd ps sp := by
  obtain ⟨_, _, _, _, _, _, cdv, _, _, e, l, c⟩ := Fn.ex
  subst e
  exact fn_g l c sc len fun A up s H us Q E g q => bd cdv A up s H us Q E g q
/-- a def by its body, whatever is done with what the body gives -/
theorem def_ok (hK : W.K = K) (hW : W.w = w) {k f : Nat} (A0 : AllOk P w K mg base W G k) {d : Df} {C : Cs} {n : Nat} {x qual : Str} {st : Stmt} {fd : FuncData} {ps : List Str} (D : DefOk K mg W G f d C n x qual st fd ps) (M : ModOk K mg W G C) {sp : Sp}
    (hsp : ∀ vs H Q E, sp vs H Q E → ∃ α F S as, Sr W α F S H ∧ VlRs W α F S.length as vs ∧ as.length = d.params ∧
      ∀ D : Ends, D.nx = (fun _ H' => Q .non H') → D.rt = Q → PostS W (fun _ => E) α F S H (exs G (run G k) d.body (as.map some ++ List.replicate (d.slots - d.params) none) S) D) : FnG P w K mg base (k + 2) (W.fa f) fd ps sp := by
  refine fun_g D.fn D.sp (fun vs H Q E q => ?_) (fun cdv A outer s H vs Q E hr q => ?_)
  · obtain ⟨α, F, S, as, s, r, hl, p⟩ := hsp vs H Q E q
    rw [← r.length, hl, D.pr]
  · obtain ⟨α, F, S, as, sr, r, hl, p⟩ := hsp vs H Q E q
    refine ⟨_, (cS_ok n).2 (cxt_of hK hW A0 D M hr) D.cs, α, F, as.map some ++ List.replicate (d.slots - d.params) none, S, sr, ?_, ?_⟩
    · rw [D.sl, ← hl]; exact start_env r
    · exact p _ rfl rfl
theorem never_ok {f k : Nat} {rc : Nat → List Vl → Sto → Res Vl} (h : ∀ vs S, rc f vs S = .bad) {fd : FuncData} {ps : List Str} : FnG P w K mg base k (W.fa f) fd ps (spF W rc f) :=
  ⟨fun vs H Q E ⟨α, F, S, as, s, r, p⟩ => by rw [h] at p; exact p.elim, fun {_ _ _ _ _ _ _ _ _} _ _ _ _ ⟨α, F, S, as, s', r', p⟩ => by rw [h] at p; exact p.elim⟩
theorem def_one (hK : W.K = K) (hW : W.w = w) {k f : Nat} (A0 : AllOk P w K mg base W G k) {d : Df} {C : Cs} {n : Nat} {x qual : Str} {st : Stmt} {fd : FuncData} {ps : List Str} (h : G.defs f = some d) (hi : d.init = false) (D : DefOk K mg W G f d C n x qual st fd ps) (M : ModOk K mg W G C) :
    FnG P w K mg base (k + 2) (W.fa f) fd ps (spF W (run G (k + 1)) f) := by
  refine def_ok (sp := spF W (run G (k + 1)) f) hK hW A0 D M fun vs H Q E ⟨α, F, S, as, s, r, p⟩ => ?_
  unfold run at p
  rw [h] at p
  dsimp only at p
  split at p
  · rename_i hl
    simp only [hi, Bool.false_eq_true, if_false] at p
    split at p
    · split at p
      · rename_i hda
        refine ⟨α, F, [], as, s.none, r.datas hda, beq_iff_eq.mp hl, fun D e1 e2 => ?_⟩
        cases hx : exs G (run G k) d.body (as.map some ++ List.replicate (d.slots - d.params) none) [] with
        | nx ρ' S' =>
          rw [hx] at p
          intro σ' α' F' H' x' s' er
          obtain ⟨s2, x2⟩ := s.back x' s'
          rw [e1]
          exact p .non α F' H' x2 s2 rfl
        | rt v S' =>
          rw [hx] at p
          intro w α' F' H' x' s' rr
          rw [e2]
          exact goOut_ok s p x' s' rr
        | exc e ρ' S' =>
          rw [hx] at p
          intro σ' c dd α' F' H' x' s' _ rr
          obtain ⟨s2, x2⟩ := s.back x' s'
          exact p c dd α F' H' x2 s2 rr
        | bk ρ' S' => rw [hx] at p; exact p.elim
        | ct ρ' S' => rw [hx] at p; exact p.elim
        | bad => rw [hx] at p; exact p.elim
      · exact p.elim
    · refine ⟨α, F, S, as, s, r, beq_iff_eq.mp hl, fun D e1 e2 => ?_⟩
      cases hx : exs G (run G k) d.body (as.map some ++ List.replicate (d.slots - d.params) none) S with
      | nx ρ' S' =>
        rw [hx] at p
        intro σ' α' F' H' x' s' er
        rw [e1]
        exact leave_ok (v := .d .non) p x' s' rfl
      | rt v S' =>
        rw [hx] at p
        intro w α' F' H' x' s' rr
        rw [e2]
        exact leave_ok p x' s' rr
      | exc e ρ' S' =>
        rw [hx] at p
        exact fun _ c dd α' F' H' x' s' _ rr => p c dd α' F' H' x' s' rr
      | bk ρ' S' => rw [hx] at p; exact p.elim
      | ct ρ' S' => rw [hx] at p; exact p.elim
      | bad => rw [hx] at p; exact p.elim
  · exact p.elim
theorem defs_ok (hK : W.K = K) (hW : W.w = w) (hd : ∀ f d, G.defs f = some d → ∃ C n x qual st fd ps, DefOk K mg W G f d C n x qual st fd ps ∧ ModOk K mg W G C) : ∀ k : Nat, AllOk P w K mg base W G k
  | 0, f, d, h => by
    obtain ⟨C, n, x, qual, st, fd, ps, D, M⟩ := hd f d h
    exact ⟨fd, ps, never_ok fun _ _ => rfl, D.fn.kp, D.bi, D.kb⟩
  | k + 1, f, d, h => by
    obtain ⟨C, n, x, qual, st, fd, ps, D, M⟩ := hd f d h
    refine ⟨fd, ps, ?_, D.fn.kp, D.bi, D.kb⟩
    cases hi : d.init with
    | true =>
      cases k with
      | zero =>
        refine never_ok fun vs S => ?_
        unfold run
        rw [h]
        dsimp only
        split
        · try simp only [hi, if_true]
        · rfl
      | succ k =>
        have := def_ok (sp := spF W (run G (k + 2)) f) hK hW (defs_ok hK hW hd k) D M fun vs H Q E ⟨α, F, S, as, s, r, p⟩ => by
          unfold run at p
          rw [h] at p
          dsimp only at p
          split at p
          · rename_i hl
            try simp only [hi, if_true] at p
            refine ⟨α, F, S, as, s, r, beq_iff_eq.mp hl, fun D e1 e2 => ?_⟩
            cases hx : exs G (run G k) d.body (as.map some ++ List.replicate (d.slots - d.params) none) S with
            | nx ρ' S' =>
              rw [hx] at p
              intro σ' α' F' H' x' s' er
              rw [e1]
              exact p .non α' F' H' x' s' rfl
            | rt v S' => rw [hx] at p; exact p.elim
            | exc e ρ' S' => rw [hx] at p; exact fun _ c dd α' F' H' x' s' _ rr => p c dd α' F' H' x' s' rr
            | bk ρ' S' => rw [hx] at p; exact p.elim
            | ct ρ' S' => rw [hx] at p; exact p.elim
            | bad => rw [hx] at p; exact p.elim
          · exact p.elim
        rw [lev, hi]
        exact this
    | false =>
      rw [lev, hi]
      exact def_one hK hW (defs_ok hK hW hd k) h hi D M
theorem law_at (hK : W.K = K) (hW : W.w = w) (hd : ∀ f d, G.defs f = some d → ∃ C n x qual st fd ps, DefOk K mg W G f d C n x qual st fd ps ∧ ModOk K mg W G C) {k f : Nat} {d : Df} {C : Cs} {n : Nat} {x qual : Str} {st : Stmt} {fd : FuncData} {ps : List Str} (h : G.defs f = some d) (hi : d.init = false)
    (D : DefOk K mg W G f d C n x qual st fd ps) (M : ModOk K mg W G C) : FnG P w K mg base (k + 2) (W.fa f) fd ps (spF W (run G (k + 1)) f) := def_one hK hW (defs_ok hK hW hd k) h hi D M
end
/-- the law's promise -/
theorem law_sp {W : Wd} {G : Gm} {k f : Nat} {H : Hp} {a : Addr} {ns : List Int} (hK : SqL W.K H a (ns.map V.int)) {S' : Sto} (hr : run G k f [.d (.scr ns)] [] = .ok (.d (.bl true)) S') {E : XK} : spF W (run G k) f [.ref a] H (fun v _ => v = .bl true) E :=
  ⟨fun _ => 0, H, [], [.d (.scr ns)], ⟨Sub.refl H, fun n ⟨c, e, _⟩ => by simp at e, fun m n ⟨c, e, _⟩ => by simp at e, fun n c e => by simp at e⟩, .cons ⟨a, rfl, hK⟩ .nil, by
    rw [hr]
    exact fun w α' F' H' x s r => r⟩
def spLaw (K : PySem.W.Frag) : Sp := fun vs H Q _ => ∃ (a : Addr) (ns : List Int), vs = [.ref a] ∧ SqL K H a (ns.map V.int) ∧ ns.length ≤ 63 ∧ ∀ H', Q (.bl true) H'
theorem law_fn {P : Program} {w : World} {K : PySem.W.Frag} {mg : Str → Option Value} {base : Heap} {W : Wd} {G : Gm} {j k f : Nat} {fd : FuncData} {ps : List Str} (hK : W.K = K) (Fk : FnG P w K mg base j (W.fa f) fd ps (spF W (run G k) f))
    (hlaw : ∀ ns : List Int, ns.length ≤ 63 → ∃ S', run G k f [.d (.scr ns)] [] = .ok (.d (.bl true)) S') : FnG P w K mg base j (W.fa f) fd ps (spLaw K) :=
  Fk.less fun vs H Q E ⟨a, ns, e, q, hl, kk⟩ => by
    obtain ⟨S', hr⟩ := hlaw ns hl
    subst e hK
    obtain ⟨α, F, S, as, s, r, p⟩ := law_sp (E := E) q hr
    exact ⟨α, F, S, as, s, r, p.imp fun v H' z => by rw [z]; exact kk H'⟩
theorem gd_nil {mg : Str → Option Value} {W : Wd} {G : Gm} : ∀ (x : Str) (f : Nat), ([] : List (Str × Nat)).lookup x = some f → mg x = some (.ref (W.fa f)) ∧ ∃ d, G.defs f = some d ∧ d.init = false ∧ d.kw = false := fun _ _ h => nomatch h
/-- by the list's head -/
theorem lk_cons {τ : Type} {R : Str → τ → Prop} {y : Str} {g : τ} {l : List (Str × τ)} (h1 : R y g) (h : ∀ (x : Str) (f : τ), l.lookup x = some f → R x f) : ∀ (x : Str) (f : τ), ((y, g) :: l).lookup x = some f → R x f := fun x f e => by
  rw [List.lookup_cons] at e
  cases q : x == y with
  | true =>
    rw [q] at e
    have q := beq_iff_eq.mp q
    cases e
    subst q
    exact h1
  | false => rw [q] at e; exact h x f e
theorem lk_nil {τ : Type} {R : Str → τ → Prop} : ∀ (x : Str) (f : τ), ([] : List (Str × τ)).lookup x = some f → R x f := fun _ _ h => nomatch h
theorem gd_cons {mg : Str → Option Value} {W : Wd} {G : Gm} {y : Str} {g : Nat} {l : List (Str × Nat)} (h1 : mg y = some (.ref (W.fa g))) (h2 : ∃ d, G.defs g = some d ∧ d.init = false ∧ d.kw = false) (h : ∀ (x : Str) (f : Nat), l.lookup x = some f → mg x = some (.ref (W.fa f)) ∧ ∃ d, G.defs f = some d ∧ d.init = false ∧ d.kw = false) :
    ∀ (x : Str) (f : Nat), ((y, g) :: l).lookup x = some f → mg x = some (.ref (W.fa f)) ∧ ∃ d, G.defs f = some d ∧ d.init = false ∧ d.kw = false := lk_cons (R := fun x f => mg x = some (.ref (W.fa f)) ∧ ∃ d, G.defs f = some d ∧ d.init = false ∧ d.kw = false) ⟨h1, h2⟩ h
/-! ### the names of fields -/
def nmOf (NM : List Str) (f : Nat) : Str := match NM[f]? with
  | some x => x
  | none => ⟨(List.replicate (f + 1) 0).toArray⟩
def plainNm (x : Str) : Bool := match x.cps.toList with
  | [] => false
  | c :: _ => c != 0
def nmB (NM : List Str) : Bool := decide NM.Nodup && NM.all plainNm
theorem zeros_not {f : Nat} : plainNm ⟨(List.replicate (f + 1) 0).toArray⟩ = false := by
  unfold plainNm
  simp [List.replicate_succ]
theorem nmOf_inj {NM : List Str} (h : nmB NM = true) : ∀ a b, nmOf NM a = nmOf NM b → a = b := by
  unfold nmB at h
  rw [Bool.and_eq_true] at h
  have nd := of_decide_eq_true h.1
  have pl := List.all_eq_true.mp h.2
  intro a b e
  unfold nmOf at e
  cases ha : NM[a]? with
  | some x =>
    cases hb : NM[b]? with
    | some y =>
      rw [ha, hb] at e
      have e : x = y := e
      subst e
      obtain ⟨la, ea⟩ := List.getElem?_eq_some_iff.mp ha
      obtain ⟨lb, eb⟩ := List.getElem?_eq_some_iff.mp hb
      exact (List.getElem_inj nd).mp (ea.trans eb.symm)
    | none =>
      rw [ha, hb] at e
      have e : x = _ := e
      have := pl x (List.mem_iff_getElem?.mpr ⟨a, ha⟩)
      rw [e, zeros_not] at this
      cases this
  | none =>
    cases hb : NM[b]? with
    | some y =>
      rw [ha, hb] at e
      have e : _ = y := e
      have := pl y (List.mem_iff_getElem?.mpr ⟨b, hb⟩)
      rw [← e, zeros_not] at this
      cases this
    | none =>
      rw [ha, hb] at e
      have e := congrArg (fun s : Str => s.cps.toList.length) e
      simpa using e
theorem nmOf_ne {NM : List Str} {m : Str} (h : (!NM.contains m && plainNm m) = true) : ∀ j, nmOf NM j ≠ m := by
  rw [Bool.and_eq_true] at h
  intro j e
  unfold nmOf at e
  cases hj : NM[j]? with
  | some x =>
    rw [hj] at e
    have e : x = m := e
    have : NM.contains m = true := by
      rw [List.contains_iff_mem, ← e]
      exact List.mem_iff_getElem?.mpr ⟨j, hj⟩
    simp only [this] at h
    exact absurd h.1 (by decide)
  | none =>
    rw [hj] at e
    have e : _ = m := e
    rw [← e, zeros_not] at h
    cases h.2
/-! ### by a list's head, numbers -/
theorem nk_nil {τ : Type} {R : Nat → τ → Prop} : ∀ (x : Nat) (f : τ), List.lookup x ([] : List (Nat × τ)) = some f → R x f := fun _ _ h => nomatch h
theorem nk_cons {τ : Type} {R : Nat → τ → Prop} {y : Nat} {g : τ} {l : List (Nat × τ)} (h1 : R y g) (h : ∀ (x : Nat) (f : τ), List.lookup x l = some f → R x f) : ∀ (x : Nat) (f : τ), List.lookup x ((y, g) :: l) = some f → R x f := fun x f e => by
  rw [List.lookup_cons] at e
  cases q : x == y with
  | true =>
    rw [q] at e
    have q := beq_iff_eq.mp q
    cases e
    subst q
    exact h1
  | false => rw [q] at e; exact h x f e
theorem mk_cons {τ : Type} {R : τ → Prop} {y : τ} {l : List τ} (h1 : R y) (h : ∀ x ∈ l, R x) : ∀ x ∈ y :: l, R x := fun x hx => by
  rcases List.mem_cons.mp hx with e | e
  · rw [e]; exact h1
  · exact h x e
theorem mk_nil {τ : Type} {R : τ → Prop} : ∀ x ∈ ([] : List τ), R x := fun _ h => nomatch h
/-! ### a dict of the module's top -/
/-- the texts of keys -/
inductive KeysR : List Tx → List Value → Prop
  | nil : KeysR [] []
  | cons {z : Tx} {t : Tok} {ks : List Tx} {us : List Value} : KeysR ks us → KeysR (z :: ks) (.str ⟨z.toArray⟩ t :: us)
theorem wd_at : ∀ {ks : List Tx} {kv : List Value} {vs : List V} {us : List Value} {es : List DictEntry}, KeysR ks kv → Vals vs us → es.map (·.key) = kv → es.map (·.val) = us → ∀ z : Tx,
    (es.any (·.refKey) = false) ∧ RelO (wdFind ks vs z) ((es.find? (·.key.isStr ⟨z.toArray⟩)).map (·.val))
  | _, _, _, _, [], hk, hv, e1, e2, z => by
    cases e1
    cases e2
    cases hk
    cases hv
    exact ⟨rfl, trivial⟩
  | _, _, _, _, e :: es, hk, hv, e1, e2, z => by
    rw [List.map_cons] at e1 e2
    subst e1 e2
    generalize hkey : e.key = key at hk
    cases hk with
    | @cons z0 t ks us hk =>
      cases hv with
      | @cons v vs u us' hv hvs =>
        obtain ⟨h1, h2⟩ := wd_at hk hvs rfl rfl z
        have hr : e.refKey = false := by unfold DictEntry.refKey; rw [hkey]
        have hi : e.key.isStr ⟨z.toArray⟩ = decide (z0 = z) := by
          rw [hkey]
          show ((⟨z0.toArray⟩ : Str) == ⟨z.toArray⟩) = decide (z0 = z)
          by_cases q : z0 = z
          · subst q; simp
          · have : ¬ ((⟨z0.toArray⟩ : Str) = ⟨z.toArray⟩) := fun w => q ((str_eq _ _).mp w)
            simp [q, this]
        refine ⟨by rw [List.any_cons, hr, h1]; rfl, ?_⟩
        rw [List.find?_cons, hi]
        unfold wdFind
        simp only [List.zip_cons_cons, List.find?_cons]
        by_cases q : z0 = z
        · simp only [q, decide_true]
          exact hv
        · simp only [q, decide_false]
          exact h2
theorem wd_mk {W : Wd} {a : Addr} {ks : List Tx} {kv : List Value} {vs : List V} {us : List Value} {es : Array DictEntry} {n : Nat} (h1 : W.K.lookup a = some ⟨.type "dict", none, .dict es n, #[]⟩) (h2 : PySem.W.KeysLit W.w.params es.toList) (h3 : (a == sysModules) = false)
    (hk : KeysR ks kv) (hv : Vals vs us) (e1 : es.toList.map (·.key) = kv) (e2 : es.toList.map (·.val) = us) : WdR W a ks vs := by
  have hl : ks.length = vs.length := by
    have a1 : ks.length = kv.length := by
      clear e1
      induction hk with
      | nil => rfl
      | cons _ ih => simp [ih]
    have a2 : vs.length = us.length := Vals.length hv
    rw [a1, a2, ← e1, ← e2]
    simp
  refine ⟨hl, es, n, h1, h2, h3, fun z => ?_⟩
  obtain ⟨h5, h6⟩ := wd_at hk hv e1 e2 z
  refine ⟨(es.toList.find? (·.key.isStr ⟨z.toArray⟩)).map (·.val), ?_, h6⟩
  unfold PySem.W.nsIn
  rw [h1]
  dsimp only
  cases hf : es.toList.find? (·.key.isStr ⟨z.toArray⟩) with
  | some e => rfl
  | none =>
    dsimp only
    rw [if_neg (by rw [h5]; exact Bool.false_ne_true)]
    rfl
theorem gc_nil {mg : Str → Option Value} {W : Wd} {G : Gm} : ∀ (x : Str) (g : Nat), ([] : List (Str × Nat)).lookup x = some g → ∃ v u, mg x = some u ∧ RelV v u ∧ ∀ F, Rp W F (G.con g) v := fun _ _ h => nomatch h
theorem gc_cons {mg : Str → Option Value} {W : Wd} {G : Gm} {y : Str} {f : Nat} {l : List (Str × Nat)} (h1 : ∃ v u, mg y = some u ∧ RelV v u ∧ ∀ F, Rp W F (G.con f) v) (h : ∀ (x : Str) (g : Nat), l.lookup x = some g → ∃ v u, mg x = some u ∧ RelV v u ∧ ∀ F, Rp W F (G.con g) v) :
    ∀ (x : Str) (g : Nat), ((y, f) :: l).lookup x = some g → ∃ v u, mg x = some u ∧ RelV v u ∧ ∀ F, Rp W F (G.con g) v := fun x g e => by
  rw [List.lookup_cons] at e
  cases q : x == y with
  | true =>
    rw [q] at e
    have q := beq_iff_eq.mp q
    cases e
    subst q
    exact h1
  | false => rw [q] at e; exact h x g e
theorem gb_nil {mg : Str → Option Value} : ∀ x : Str, x ∈ ([] : List Str) → mg x = none := fun _ h => nomatch h
theorem gb_cons {mg : Str → Option Value} {y : Str} {l : List Str} (h1 : mg y = none) (h : ∀ x : Str, x ∈ l → mg x = none) : ∀ x : Str, x ∈ y :: l → mg x = none := fun x hx => by
  rcases List.mem_cons.mp hx with e | e
  · rw [e]; exact h1
  · exact h x e
theorem no_exc {P : Program} {w : World} {up : List PySem.Env} {H : Hp} {s s' : Shared} {e : Value} (h : CX P w up H s E0 e s') : False := by
  obtain ⟨_, _, _, _, _, _, _, _, _, _, _, _, z⟩ := h
  exact z
/-- the law's def called on its script, from the top -/
theorem top_call {P : Program} {w : World} {K : PySem.W.Frag} {mg mb : Str → Option Value} {k : Nat} {fa a : Addr} {fd : FuncData} {x : Str} {sp : Sp} {t : Shared} {ws : List Value} {ns : List Int}
    (kin : K.In t.heap) (glo : t.heap.Ns mainGlobals mg) (blt : t.heap.Ns builtinsNs mb) (bb : ∀ y : Str, y ≠ "__name__" → mb y = bootBuiltins y) (lim : t.heap.NoLimit) (gens : t.gens = #[])
    (at_ : t.heap.get? a = some { cls := .type "list", data := .seq ws.toArray }) (whole : PyProof.Rows.IntsAre ws ns) (sz : ns.length ≤ sizeLine) (g : RoomG k callerA) (F : ∀ base : Heap, K.In base → base.Ns mainGlobals mg → FnG P w K mg base k fa fd [x] sp)
    (bi : ∀ (s : Shared) (u : Value), BindsTo s fd ⟨[u], []⟩ [(x, u)]) (want : ∀ H : Hp, SqL K H a (ns.map V.int) → sp [.ref a] H (fun v _ => v = .bl true) E0) :
    codeAny (model P w) callerA (.call (.ref fa) ⟨[.ref a], []⟩) (fun r s' => r = .ok (.ret (.bool true)) ∧ OldK t.heap s'.heap ∧ s'.os = t.os ∧ PyProof.Rows.AllBare s'.gens) t := by
  -- H tracks the script, or nothing
  have core : ∀ H : Hp, SqL K H a (ns.map V.int) → HOk P w H t.heap → (∀ b, H b = none ∨ (b = a ∧ K.lookup a = none ∧ ∃ o xs, H b = some (.frz o (.lst xs)))) →
      codeAny (model P w) callerA (.call (.ref fa) ⟨[.ref a], []⟩) (fun r s' => r = .ok (.ret (.bool true)) ∧ OldK t.heap s'.heap ∧ s'.os = t.os ∧ PyProof.Rows.AllBare s'.gens) t := by
    intro H sq hok kind
    have put : ∀ {b : Addr} {o : Obj}, t.heap.get? b = some o → H b = none → (hidT t.heap H).get? b = some o := hidT_get
    have dictFree : ∀ {b : Addr} {o : Obj} {es : Array DictEntry} {ep : Nat}, t.heap.get? b = some o → o.data = .dict es ep → H b = none := fun {b o es ep} e d => (kind b).resolve_right fun ⟨eb, _, _⟩ => by
      subst eb
      rw [at_] at e
      cases e
      cases (show Data.seq ws.toArray _ = Data.dict es ep from d)
    have space : ∀ {b : Addr} {m : Str → Option Value}, t.heap.Ns b m → (hidT t.heap H).Ns b m := fun ⟨o, es, ep, e, d, r⟩ => ⟨o, es, ep, put e (dictFree e d), d, r⟩
    have kinB : K.In (hidT t.heap H) := fun b o e => put (kin b o e) ((kind b).resolve_right fun ⟨eb, kn, _⟩ => by
      subst eb
      rw [kn] at e
      cases e)
    have m : Mod K mg (hidT t.heap H) := ⟨kinB, space glo, ⟨mb, space blt, bb⟩, by obtain ⟨mc, q1, q2⟩ := lim; exact ⟨mc, space q1, q2⟩⟩
    have e0 : Env0 P w K mg (hidT t.heap H) callerA [] t H := ⟨rfl, m, fun _ _ => of_hidT, Nat.le_of_eq (hidT_size _ _), trivial, fun b hb => absurd hb List.not_mem_nil, hok, .of_eq gens⟩
    refine codeAny_mono ((F _ kinB (space glo)).go (us := [V.ref a]) (ws := [Value.ref a]) g e0 (bi t _) (.cons rfl .nil) (want H sq)) fun r s' z => ?_
    cases r
    case error e => exact (no_exc z).elim
    case ok fl =>
      cases fl
      case ret u =>
        obtain ⟨v, H', os, bare, un, hok', rv, ev⟩ := z
        have ev : v = .bl true := ev
        subst ev
        refine ⟨by rw [show u = Value.bool true from rv], OldK.of_keep fun b o e => ?_, os, bare⟩
        rcases kind b with q | ⟨_, _, ob, us, q⟩
        · exact un.keep b o e q List.not_mem_nil List.not_mem_nil
        · have a1 := (hok b _ q).1
          rw [e] at a1
          cases a1
          exact (hok' b _ (un.frzs b _ _ q)).1
      all_goals exact (show False from z).elim
  have rel := vals_ints whole
  cases hk : K.lookup a with
  | some o =>
    have e := kin a o hk
    rw [at_] at e
    cases e
    exact core (fun _ => none) (.inr ⟨_, ws.toArray, _, hk, rfl, rfl, rfl, by rw [List.size_toArray, whole.length]; exact sz, by simpa using rel⟩) (fun b u z => nomatch (show (none : Option HO) = some u from z)) fun _ => .inl rfl
  | none =>
    have here : (fun b : Addr => if b = a then some (HO.frz { cls := .type "list", data := .seq ws.toArray } (.lst (ns.map V.int))) else none) a = some (.frz { cls := .type "list", data := .seq ws.toArray } (.lst (ns.map V.int))) := if_pos rfl
    refine core (fun b => if b = a then some (.frz { cls := .type "list", data := .seq ws.toArray } (.lst (ns.map V.int))) else none) (.inl (.inr ⟨_, here⟩)) (fun b u z => ?_) fun b => ?_
    · have z : (if b = a then some (HO.frz { cls := .type "list", data := .seq ws.toArray } (.lst (ns.map V.int))) else none) = some u := z
      by_cases eb : b = a
      · rw [if_pos eb] at z
        cases z
        subst eb
        exact ⟨at_, by rw [List.length_map]; exact sz, ws, _, rel, at_⟩
      · rw [if_neg eb] at z
        cases z
    · by_cases eb : b = a
      · subst eb
        exact .inr ⟨rfl, hk, _, _, here⟩
      · exact .inl (if_neg eb)
theorem walk {l : PySem.W.OpenLaw} {q : Program} {loose : List Str} {XP : (Str → Option Value) → Heap → Prop} {YP : World → Heap → Prop} {d : DefRec} {K : Params → PySem.W.Frag} {k : Nat} (hn : l.most = some 63) (hdf : d.params.defaults = []) (hr : RoomG k callerA)
    (hY : ∀ (w : World) (h : Heap), YP w h → (K w.params).In h)
    (F : ∀ (w : World) (mg : Str → Option Value) (fa : Addr) (h : Heap), (K w.params).In h → h.Ns mainGlobals mg → mg d.name = some (.ref fa) →
      ∃ fd : FuncData, (∀ (s : Shared) (u : Value), BindsTo s fd ⟨[u], []⟩ [("script", u)]) ∧ ∀ base : Heap, (K w.params).In base → base.Ns mainGlobals mg → FnG l.prog w (K w.params) mg base k fa fd ["script"] (spLaw (K w.params))) :
    PySem.W.WalkO q loose XP YP l.row.toRowW d [] (fun f vs => PySem.call f vs) :=
  Att.attach_call hn hdf fun w _ _ mg _ fa _ _ _ _ a _ ns G Y _ _ _ glob obj whole len gens => by
    have kin := hY w _ Y
    obtain ⟨fd, bi, Fn⟩ := F w mg fa _ kin G.T.g glob
    exact top_call kin G.T.g G.T.b G.T.builtins G.T.nolimit gens obj whole (Nat.le_trans len (by decide)) hr Fn bi fun H sq => ⟨a, ns, rfl, sq, len, fun _ => rfl⟩
theorem room_all {k : Nat} (h : k ≤ 230) : RoomG k callerA := ⟨Room.mono (k := 230) ⟨rfl, by decide, by decide⟩ h, rfl⟩
end Z
end

section
set_option maxHeartbeats 1000000
set_option maxRecDepth 10000
/-! Z19: running the small language by rewriting: every continuation has a name, so that nothing is looked at before its turn. -/
namespace Z
open PySem L2

abbrev Rc := Nat → List Vl → Sto → Res Vl
section
variable {α β : Type} {a : α} {e : Exn} {S : Sto} {ρ : Env} {v : Vl}
@[simp] theorem bind_ok (f : α → Sto → Res β) : (Res.ok a S).bind f = f a S := (rfl)
@[simp] theorem bind_bad (f : α → Sto → Res β) : (Res.bad : Res α).bind f = .bad := (rfl)
@[simp] theorem bind_exc (f : α → Sto → Res β) : (Res.exc e S : Res α).bind f = .exc e S := (rfl)
@[simp] theorem thn_ok (f : α → Sto → RS) : (Res.ok a S).thn ρ f = f a S := (rfl)
@[simp] theorem thn_bad (f : α → Sto → RS) : (Res.bad : Res α).thn ρ f = .bad := (rfl)
@[simp] theorem thn_exc (f : α → Sto → RS) : (Res.exc e S : Res α).thn ρ f = .exc e ρ S := (rfl)
@[simp] theorem seq_nx' (f : Env → Sto → RS) : (RS.nx ρ S).seq f = f ρ S := (rfl)
@[simp] theorem seq_rt (f : Env → Sto → RS) : (RS.rt v S).seq f = .rt v S := (rfl)
@[simp] theorem seq_bk (f : Env → Sto → RS) : (RS.bk ρ S).seq f = .bk ρ S := (rfl)
@[simp] theorem seq_ct (f : Env → Sto → RS) : (RS.ct ρ S).seq f = .ct ρ S := (rfl)
@[simp] theorem seq_exc (f : Env → Sto → RS) : (RS.exc e ρ S).seq f = .exc e ρ S := (rfl)
@[simp] theorem seq_bad (f : Env → Sto → RS) : (RS.bad).seq f = .bad := (rfl)
@[simp] theorem mapS_nx (f : Sto → Sto) : (RS.nx ρ S).mapS f = .nx ρ (f S) := (rfl)
@[simp] theorem mapS_rt (f : Sto → Sto) : (RS.rt v S).mapS f = .rt v (f S) := (rfl)
@[simp] theorem seq_ite {c : Prop} [Decidable c] {x y : RS} (f : Env → Sto → RS) : (if c then x else y).seq f = if c then x.seq f else y.seq f := by split <;> rfl
variable {r r' : Res α} {q q' : RS}
end
section
variable {G : Gm} {rc : Rc} {ρ : Env} {S : Sto} {a b c e : Ex} {es ks : List Ex} {o : Op} {x y z : Vl} {i j : Int} {n m : Nat} {d : D} {ds : List D} {vs : List Vl} {k : Bool} {lo hi : Option Ex} {t : Tg} {s : St} {ss tt : List St}
@[simp] theorem ev_var : ev G rc (.var n) ρ S = pick ((ρ[n]?).bind id) S := (rfl)
@[simp] theorem pick_some : pick (some x) S = .ok x S := (rfl)
@[simp] theorem ev_con : ev G rc (.con d) ρ S = .ok (.d d) S := (rfl)
@[simp] theorem ev_glob : ev G rc (.glob n) ρ S = .ok (.d (G.con n)) S := (rfl)
def kOp2 (o : Op) (x : Vl) : Vl → Sto → Res Vl := fun y S => binop o x y S
@[simp] theorem kOp2_a : kOp2 o x y S = binop o x y S := (rfl)
def kOp (G : Gm) (rc : Rc) (o : Op) (b : Ex) (ρ : Env) : Vl → Sto → Res Vl := fun x S => (ev G rc b ρ S).bind (kOp2 o x)
@[simp] theorem kOp_a : kOp G rc o b ρ x S = (ev G rc b ρ S).bind (kOp2 o x) := (rfl)
@[simp] theorem ev_op : ev G rc (.op o a b) ρ S = (ev G rc a ρ S).bind (kOp G rc o b ρ) := (rfl)
def kNeg : Vl → Sto → Res Vl := fun x S => match x with
    | .d (.int i) => .ok (.d (.int (-i))) S
    | _ => .bad
@[simp] theorem kNeg_a : kNeg (.d (.int i)) S = .ok (.d (.int (-i))) S := (rfl)
@[simp] theorem ev_neg : ev G rc (.neg a) ρ S = (ev G rc a ρ S).bind kNeg := (rfl)
def kCm2 (c : Cm) (x : Vl) : Vl → Sto → Res Vl := fun y S => cmpop c x y S
@[simp] theorem kCm2_a {c : Cm} : kCm2 c x y S = cmpop c x y S := (rfl)
def kCm (G : Gm) (rc : Rc) (o : Cm) (b : Ex) (ρ : Env) : Vl → Sto → Res Vl := fun x S => (ev G rc b ρ S).bind (kCm2 o x)
@[simp] theorem kCm_a {c : Cm} : kCm G rc c b ρ x S = (ev G rc b ρ S).bind (kCm2 c x) := (rfl)
@[simp] theorem ev_cmp {c : Cm} : ev G rc (.cmp c a b) ρ S = (ev G rc a ρ S).bind (kCm G rc c b ρ) := (rfl)
def kCh3 (G : Gm) (rc : Rc) (c : Cm) (e : Ex) (ρ : Env) (y : Vl) : Vl → Sto → Res Vl := fun r S => match r with
    | .d (.bl true) => (ev G rc e ρ S).bind (kCm2 c y)
    | .d (.bl false) => .ok (.d (.bl false)) S
    | _ => .bad
@[simp] theorem kCh3_t {c : Cm} : kCh3 G rc c e ρ y (.d (.bl true)) S = (ev G rc e ρ S).bind (kCm2 c y) := (rfl)
@[simp] theorem kCh3_f {c : Cm} : kCh3 G rc c e ρ y (.d (.bl false)) S = .ok (.d (.bl false)) S := (rfl)
def kCh2 (G : Gm) (rc : Rc) (c c' : Cm) (e : Ex) (ρ : Env) (x : Vl) : Vl → Sto → Res Vl := fun y S => (cmpop c x y S).bind (kCh3 G rc c' e ρ y)
@[simp] theorem kCh2_a {c c' : Cm} : kCh2 G rc c c' e ρ x y S = (cmpop c x y S).bind (kCh3 G rc c' e ρ y) := (rfl)
def kCh (G : Gm) (rc : Rc) (c c' : Cm) (b e : Ex) (ρ : Env) : Vl → Sto → Res Vl := fun x S => (ev G rc b ρ S).bind (kCh2 G rc c c' e ρ x)
@[simp] theorem kCh_a {c c' : Cm} : kCh G rc c c' b e ρ x S = (ev G rc b ρ S).bind (kCh2 G rc c c' e ρ x) := (rfl)
@[simp] theorem ev_chain {c c' : Cm} : ev G rc (.chain c c' a b e) ρ S = (ev G rc a ρ S).bind (kCh G rc c c' b e ρ) := (rfl)
def kAnd2 (G : Gm) (rc : Rc) (b : Ex) (ρ : Env) (x : Vl) : Bool → Sto → Res Vl := fun k S => if k then ev G rc b ρ S else .ok x S
@[simp] theorem kAnd2_t : kAnd2 G rc b ρ x true S = ev G rc b ρ S := (rfl)
@[simp] theorem kAnd2_f : kAnd2 G rc b ρ x false S = .ok x S := (rfl)
def kAnd (G : Gm) (rc : Rc) (b : Ex) (ρ : Env) : Vl → Sto → Res Vl := fun x S => (tru x S).bind (kAnd2 G rc b ρ x)
@[simp] theorem kAnd_a : kAnd G rc b ρ x S = (tru x S).bind (kAnd2 G rc b ρ x) := (rfl)
@[simp] theorem ev_and : ev G rc (.and a b) ρ S = (ev G rc a ρ S).bind (kAnd G rc b ρ) := (rfl)
def kOr2 (G : Gm) (rc : Rc) (b : Ex) (ρ : Env) (x : Vl) : Bool → Sto → Res Vl := fun k S => if k then .ok x S else ev G rc b ρ S
@[simp] theorem kOr2_t : kOr2 G rc b ρ x true S = .ok x S := (rfl)
@[simp] theorem kOr2_f : kOr2 G rc b ρ x false S = ev G rc b ρ S := (rfl)
def kOr (G : Gm) (rc : Rc) (b : Ex) (ρ : Env) : Vl → Sto → Res Vl := fun x S => (tru x S).bind (kOr2 G rc b ρ x)
@[simp] theorem kOr_a : kOr G rc b ρ x S = (tru x S).bind (kOr2 G rc b ρ x) := (rfl)
@[simp] theorem ev_or : ev G rc (.or a b) ρ S = (ev G rc a ρ S).bind (kOr G rc b ρ) := (rfl)
def kNot2 : Bool → Sto → Res Vl := fun k S => .ok (.d (.bl (!k))) S
@[simp] theorem kNot2_a : kNot2 k S = .ok (.d (.bl (!k))) S := (rfl)
def kNot : Vl → Sto → Res Vl := fun x S => (tru x S).bind kNot2
@[simp] theorem kNot_a : kNot x S = (tru x S).bind kNot2 := (rfl)
@[simp] theorem ev_not : ev G rc (.not a) ρ S = (ev G rc a ρ S).bind kNot := (rfl)
def kIte2 (G : Gm) (rc : Rc) (a b : Ex) (ρ : Env) : Bool → Sto → Res Vl := fun k S => if k then ev G rc a ρ S else ev G rc b ρ S
@[simp] theorem kIte2_t : kIte2 G rc a b ρ true S = ev G rc a ρ S := (rfl)
@[simp] theorem kIte2_f : kIte2 G rc a b ρ false S = ev G rc b ρ S := (rfl)
def kIte (G : Gm) (rc : Rc) (a b : Ex) (ρ : Env) : Vl → Sto → Res Vl := fun x S => (tru x S).bind (kIte2 G rc a b ρ)
@[simp] theorem kIte_a : kIte G rc a b ρ x S = (tru x S).bind (kIte2 G rc a b ρ) := (rfl)
@[simp] theorem ev_ite : ev G rc (.ite c a b) ρ S = (ev G rc c ρ S).bind (kIte G rc a b ρ) := (rfl)
def kTup : List Vl → Sto → Res Vl := fun vs S => match pures vs with
    | some ds => if decide (ds.length ≤ most) then .ok (.d (.tup ds)) S else .bad
    | none => .bad
@[simp] theorem kTup_a : kTup vs S = (match pures vs with
    | some ds => if decide (ds.length ≤ most) then .ok (.d (.tup ds)) S else .bad
    | none => .bad) := (rfl)
@[simp] theorem ev_tup : ev G rc (.tup es) ρ S = (evs G rc es ρ S).bind kTup := (rfl)
@[simp] theorem ev_rep : ev G rc (.rep es) ρ S = (evs G rc es ρ S).bind bRep := (rfl)
def kLst (cell : Bool) : List Vl → Sto → Res Vl := fun vs S => newList cell vs S
@[simp] theorem kLst_a : kLst k vs S = newList k vs S := (rfl)
@[simp] theorem ev_lst : ev G rc (.lst k es) ρ S = (evs G rc es ρ S).bind (kLst k) := (rfl)
def kIx2 (x : Vl) : Vl → Sto → Res Vl := fun y S => index x y S
@[simp] theorem kIx2_a : kIx2 x y S = index x y S := (rfl)
def kIx (G : Gm) (rc : Rc) (b : Ex) (ρ : Env) : Vl → Sto → Res Vl := fun x S => (ev G rc b ρ S).bind (kIx2 x)
@[simp] theorem kIx_a : kIx G rc b ρ x S = (ev G rc b ρ S).bind (kIx2 x) := (rfl)
@[simp] theorem ev_ix : ev G rc (.ix a b) ρ S = (ev G rc a ρ S).bind (kIx G rc b ρ) := (rfl)
def kSome : Vl → Sto → Res (Option Int) := fun v S => match v with
    | .d (.int i) => .ok (some i) S
    | _ => .bad
@[simp] theorem kSome_a : kSome (.d (.int i)) S = .ok (some i) S := (rfl)
@[simp] theorem evo_none : evo G rc none ρ S = .ok none S := (rfl)
@[simp] theorem evo_some : evo G rc (some a) ρ S = (ev G rc a ρ S).bind kSome := (rfl)
def kSl3 (x : Vl) (l : Option Int) : Option Int → Sto → Res Vl := fun h S => slice x l h S
@[simp] theorem kSl3_a {l h : Option Int} : kSl3 x l h S = slice x l h S := (rfl)
def kSl2 (G : Gm) (rc : Rc) (hi : Option Ex) (ρ : Env) (x : Vl) : Option Int → Sto → Res Vl := fun l S => (evo G rc hi ρ S).bind (kSl3 x l)
@[simp] theorem kSl2_a {l : Option Int} : kSl2 G rc hi ρ x l S = (evo G rc hi ρ S).bind (kSl3 x l) := (rfl)
def kSl (G : Gm) (rc : Rc) (lo hi : Option Ex) (ρ : Env) : Vl → Sto → Res Vl := fun x S => (evo G rc lo ρ S).bind (kSl2 G rc hi ρ x)
@[simp] theorem kSl_a : kSl G rc lo hi ρ x S = (evo G rc lo ρ S).bind (kSl2 G rc hi ρ x) := (rfl)
@[simp] theorem ev_sl : ev G rc (.sl a lo hi) ρ S = (ev G rc a ρ S).bind (kSl G rc lo hi ρ) := (rfl)
def kCall (rc : Rc) (f : Nat) : List Vl → Sto → Res Vl := fun vs S => rc f vs S
@[simp] theorem kCall_a : kCall rc n vs S = rc n vs S := (rfl)
@[simp] theorem ev_call : ev G rc (.call n es) ρ S = (evs G rc es ρ S).bind (kCall rc n) := (rfl)
def kBf (b : Bf) (cell : Bool) : List Vl → Sto → Res Vl := fun vs S => builtin b cell vs S
@[simp] theorem kBf_a {b : Bf} : kBf b k vs S = builtin b k vs S := (rfl)
@[simp] theorem ev_bf {b : Bf} : ev G rc (.bf b k es) ρ S = (evs G rc es ρ S).bind (kBf b k) := (rfl)
def kKf (rc : Rc) (b : Kf) (n : Nat) (k : Bool) : List Vl → Sto → Res Vl := fun vs S => keyed rc b n k vs S
@[simp] theorem kKf_sorted : kKf rc .sorted n k [v] S = keyedSort rc n k v S := (rfl)
@[simp] theorem kKf_max2 {x y : D} : kKf rc .max2 n k [.d x, .d y] S = keyedMax rc n [x, y] S := (rfl)
@[simp] theorem kKf_max1 {xs : List D} : kKf rc .max1 n k [.d (.lst xs)] S = keyedMax rc n xs S := (rfl)
@[simp] theorem kKf_min2 {x y : D} : kKf rc .min2 n k [.d x, .d y] S = keyedBest rc n [x, y] S := (rfl)
@[simp] theorem kKf_min1 {xs : List D} : kKf rc .min1 n k [.d (.lst xs)] S = keyedBest rc n xs S := (rfl)
@[simp] theorem ev_kf {b : Kf} : ev G rc (.kf b n k es) ρ S = (evs G rc es ρ S).bind (kKf rc b n k) := (rfl)
def kBm2 (m : Bm) (x : Vl) : List Vl → Sto → Res Vl := fun vs S => method m x vs S
@[simp] theorem kBm2_a {m : Bm} : kBm2 m x vs S = method m x vs S := (rfl)
def kBm (G : Gm) (rc : Rc) (m : Bm) (es : List Ex) (ρ : Env) : Vl → Sto → Res Vl := fun x S => if bmTy m x S then (evs G rc es ρ S).bind (kBm2 m x) else .bad
@[simp] theorem kBm_a {m : Bm} : kBm G rc m es ρ x S = if bmTy m x S then (evs G rc es ρ S).bind (kBm2 m x) else .bad := (rfl)
@[simp] theorem ev_bm {m : Bm} : ev G rc (.bm m a es) ρ S = (ev G rc a ρ S).bind (kBm G rc m es ρ) := (rfl)
def kCons2 (v : Vl) : List Vl → Sto → Res (List Vl) := fun vs S => .ok (v :: vs) S
@[simp] theorem kCons2_a : kCons2 x vs S = .ok (x :: vs) S := (rfl)
def kCons (G : Gm) (rc : Rc) (es : List Ex) (ρ : Env) : Vl → Sto → Res (List Vl) := fun v S => (evs G rc es ρ S).bind (kCons2 v)
@[simp] theorem kCons_a : kCons G rc es ρ x S = (evs G rc es ρ S).bind (kCons2 x) := (rfl)
@[simp] theorem evs_nil : evs G rc [] ρ S = .ok [] S := (rfl)
@[simp] theorem evs_cons : evs G rc (e :: es) ρ S = (ev G rc e ρ S).bind (kCons G rc es ρ) := (rfl)
@[simp] theorem evc_none : evc G rc none ρ S = .ok true S := (rfl)
@[simp] theorem evc_some : evc G rc (some e) ρ S = (ev G rc e ρ S).bind tru := (rfl)
def kYld : Vl → Sto → Res (Option Vl) := fun y S => .ok (some y) S
@[simp] theorem kYld_a : kYld x S = .ok (some x) S := (rfl)
def kIf (G : Gm) (rc : Rc) (e : Ex) (ρ : Env) : Bool → Sto → Res (Option Vl) := fun b S => if b then (ev G rc e ρ S).bind kYld else .ok none S
@[simp] theorem kIf_t : kIf G rc e ρ true S = (ev G rc e ρ S).bind kYld := (rfl)
@[simp] theorem kIf_f : kIf G rc e ρ false S = .ok none S := (rfl)
/-- a turn of a comprehension -/
def lcB (G : Gm) (rc : Rc) (c : Option Ex) (e : Ex) : Env → Sto → Res (Option Vl) := fun ρ S => (evc G rc c ρ S).bind (kIf G rc e ρ)
@[simp] theorem lcB_a {c : Option Ex} : lcB G rc c e ρ S = (evc G rc c ρ S).bind (kIf G rc e ρ) := (rfl)
def kLc2 (cell : Bool) (lk : Option (Nat × Cell)) : List Vl → Sto → Res Vl := fun ys S => newList cell ys (unlock S lk)
@[simp] theorem kLc2_a {lk : Option (Nat × Cell)} : kLc2 k lk vs S = newList k vs (unlock S lk) := (rfl)
def kLc (G : Gm) (rc : Rc) (cell : Bool) (c : Option Ex) (e : Ex) (t : Tg) (ρ : Env) : List Vl × Option (Nat × Cell) → Sto → Res Vl := fun q S => (turns (lcB G rc c e) t ρ q.1 [] (lock S q.2)).bind (kLc2 cell q.2)
@[simp] theorem kLc_a {c : Option Ex} {lk : Option (Nat × Cell)} : kLc G rc k c e t ρ (vs, lk) S = (turns (lcB G rc c e) t ρ vs [] (lock S lk)).bind (kLc2 k lk) := (rfl)
def kWk (k : Ik) : List Vl → Sto → Res (List Vl × Option (Nat × Cell)) := fun vs S => walkF k vs S
@[simp] theorem kWk_a {k : Ik} : kWk k vs S = walkF k vs S := (rfl)
@[simp] theorem ev_lc {k' : Ik} {c : Option Ex} {own : List Nat} : ev G rc (.lc k e t own k' es c) ρ S = ((evs G rc es ρ S).bind (kWk k')).bind (kLc G rc k c e t (wipe ρ own)) := (rfl)
def kFld (f : Nat) (cs : List Nat) : Vl → Sto → Res Vl := fun x S => field x f cs S
@[simp] theorem kFld_a {cs : List Nat} : kFld n cs x S = field x n cs S := (rfl)
@[simp] theorem ev_fld {cs : List Nat} : ev G rc (.fld a n cs) ρ S = (ev G rc a ρ S).bind (kFld n cs) := (rfl)
def kDct (t cell : Bool) : List Vl → Sto → Res Vl := fun vs S => dispDct t cell vs S
@[simp] theorem kDct_a {t : Bool} : kDct t k vs S = dispDct t k vs S := (rfl)
@[simp] theorem ev_dct {t : Bool} : ev G rc (.dct t k es) ρ S = (evs G rc es ρ S).bind (kDct t k) := (rfl)
@[simp] theorem dispDct_nil {t : Bool} : dispDct t k [] S = newDct t k [] S := (rfl)
@[simp] theorem newDct_t {t : Bool} {kvs : List (D × Vl)} : newDct t true kvs S = .ok (.p S.length) (S ++ [.dct t kvs]) := (rfl)
def kCv (rc : Rc) (f : Nat) : List Vl → Sto → Res Vl := fun vs S => rc f vs S
@[simp] theorem kCv_a : kCv rc n vs S = rc n vs S := (rfl)
def kCalv (G : Gm) (rc : Rc) (es : List Ex) (ρ : Env) (S : Sto) : Option Vl → Res Vl := fun v => match v with
    | some (.d (.fn f)) => if G.callable f then (evs G rc es ρ S).bind (kCv rc f) else .bad
    | _ => .bad
@[simp] theorem kCalv_a : kCalv G rc es ρ S (some (.d (.fn n))) = if G.callable n then (evs G rc es ρ S).bind (kCv rc n) else .bad := (rfl)
@[simp] theorem ev_callv : ev G rc (.callv n es) ρ S = kCalv G rc es ρ S ((ρ[n]?).bind id) := by
  show (match (ρ[n]?).bind id with
    | some (.d (.fn f)) => if G.callable f then (evs G rc es ρ S).bind (fun vs S => rc f vs S) else .bad
    | _ => .bad) = _
  rfl
def kMt2 (rc : Rc) (f : Nat) (x : Vl) : List Vl → Sto → Res Vl := fun vs S => rc f (x :: vs) S
@[simp] theorem kMt2_a : kMt2 rc n x vs S = rc n (x :: vs) S := (rfl)
def kMt1 (G : Gm) (rc : Rc) (es : List Ex) (ρ : Env) (x : Vl) (S : Sto) : Option Nat → Res Vl := fun f => match f with
    | some f => (evs G rc es ρ S).bind (kMt2 rc f x)
    | none => .bad
@[simp] theorem kMt1_a : kMt1 G rc es ρ x S (some n) = (evs G rc es ρ S).bind (kMt2 rc n x) := (rfl)
def kMt (G : Gm) (rc : Rc) (tab : List (Nat × Nat)) (es : List Ex) (ρ : Env) : Vl → Sto → Res Vl := fun x S => kMt1 G rc es ρ x S ((clsOf x S).bind fun c => List.lookup c tab)
@[simp] theorem kMt_a {tab : List (Nat × Nat)} : kMt G rc tab es ρ x S = kMt1 G rc es ρ x S ((clsOf x S).bind fun c => List.lookup c tab) := (rfl)
@[simp] theorem ev_meth {tab : List (Nat × Nat)} : ev G rc (.meth a tab es) ρ S = (ev G rc a ρ S).bind (kMt G rc tab es ρ) := by
  show (ev G rc a ρ S).bind (fun x S => match (clsOf x S).bind fun c => List.lookup c tab with
    | some f => (evs G rc es ρ S).bind fun vs S => rc f (x :: vs) S
    | none => .bad) = _
  rfl
def kMk (rc : Rc) (c f : Nat) : List Vl → Sto → Res Vl := fun vs S => made S.length (rc f (.p S.length :: vs) (S ++ [.ins c []]))
@[simp] theorem kMk_a : kMk rc n m vs S = made S.length (rc m (.p S.length :: vs) (S ++ [.ins n []])) := (rfl)
@[simp] theorem ev_make : ev G rc (.make n m es) ρ S = (evs G rc es ρ S).bind (kMk rc n m) := (rfl)
@[simp] theorem made_a : made n (.ok (.d .non) S) = .ok (.p n) S := (rfl)
def kYldK : D × Vl → Sto → Res (Option (D × Vl)) := fun y S => .ok (some y) S
@[simp] theorem kYldK_a {y : D × Vl} : kYldK y S = .ok (some y) S := (rfl)
def kKv (y : Vl) : Vl → Sto → Res (D × Vl) := fun z S => keyVal y z S
@[simp] theorem kKv_a : kKv (.d d) x S = .ok (d, x) S := (rfl)
def kKv1 (G : Gm) (rc : Rc) (e : Ex) (ρ : Env) : Vl → Sto → Res (D × Vl) := fun y S => (ev G rc e ρ S).bind (kKv y)
@[simp] theorem kKv1_a : kKv1 G rc e ρ x S = (ev G rc e ρ S).bind (kKv x) := (rfl)
def kIfK (G : Gm) (rc : Rc) (a b : Ex) (ρ : Env) : Bool → Sto → Res (Option (D × Vl)) := fun k S => if k then ((ev G rc a ρ S).bind (kKv1 G rc b ρ)).bind kYldK else .ok none S
@[simp] theorem kIfK_t : kIfK G rc a b ρ true S = ((ev G rc a ρ S).bind (kKv1 G rc b ρ)).bind kYldK := (rfl)
@[simp] theorem kIfK_f : kIfK G rc a b ρ false S = .ok none S := (rfl)
/-- a turn of a dict comprehension -/
def dcB (G : Gm) (rc : Rc) (c : Option Ex) (a b : Ex) : Env → Sto → Res (Option (D × Vl)) := fun ρ S => (evc G rc c ρ S).bind (kIfK G rc a b ρ)
@[simp] theorem dcB_a {c : Option Ex} : dcB G rc c a b ρ S = (evc G rc c ρ S).bind (kIfK G rc a b ρ) := (rfl)
def kDc2 (cell : Bool) (lk : Option (Nat × Cell)) : List (D × Vl) → Sto → Res Vl := fun ys S => newDct false cell ys (unlock S lk)
@[simp] theorem kDc2_a {lk : Option (Nat × Cell)} {kvs : List (D × Vl)} : kDc2 k lk kvs S = newDct false k kvs (unlock S lk) := (rfl)
def kDc (G : Gm) (rc : Rc) (cell : Bool) (c : Option Ex) (a b : Ex) (t : Tg) (ρ : Env) : List Vl × Option (Nat × Cell) → Sto → Res Vl := fun q S => (turnsG putD (dcB G rc c a b) t ρ q.1 [] (lock S q.2)).bind (kDc2 cell q.2)
@[simp] theorem kDc_a {c : Option Ex} {lk : Option (Nat × Cell)} : kDc G rc k c a b t ρ (vs, lk) S = (turnsG putD (dcB G rc c a b) t ρ vs [] (lock S lk)).bind (kDc2 k lk) := (rfl)
@[simp] theorem ev_dc {k' : Ik} {c : Option Ex} {own : List Nat} : ev G rc (.dc k a b t own k' es c) ρ S = ((evs G rc es ρ S).bind (kWk k')).bind (kDc G rc k c a b t (wipe ρ own)) := (rfl)
def kSc2 (cell : Bool) (lk : Option (Nat × Cell)) : List Int → Sto → Res Vl := fun ys S => newList cell (ys.map fun i => .d (.int i)) (unlock S lk)
@[simp] theorem kSc2_a {lk : Option (Nat × Cell)} {ns : List Int} : kSc2 k lk ns S = newList k (ns.map fun i => .d (.int i)) (unlock S lk) := (rfl)
def kSc (G : Gm) (rc : Rc) (cell : Bool) (c : Option Ex) (e : Ex) (t : Tg) (ρ : Env) : List Vl × Option (Nat × Cell) → Sto → Res Vl := fun q S => (turnsG putI (lcB G rc c e) t ρ q.1 [] (lock S q.2)).bind (kSc2 cell q.2)
@[simp] theorem kSc_a {c : Option Ex} {lk : Option (Nat × Cell)} : kSc G rc k c e t ρ (vs, lk) S = (turnsG putI (lcB G rc c e) t ρ vs [] (lock S lk)).bind (kSc2 k lk) := (rfl)
@[simp] theorem ev_sc {k' : Ik} {c : Option Ex} {own : List Nat} : ev G rc (.sc k e t own k' es c) ρ S = ((evs G rc es ρ S).bind (kWk k')).bind (kSc G rc k c e t (wipe ρ own)) := (rfl)
def sRt : Vl → Sto → RS := fun v S => .rt v S
@[simp] theorem sRt_a : sRt x S = .rt x S := (rfl)
@[simp] theorem exs_nil : exs G rc [] ρ S = .nx ρ S := (rfl)
@[simp] theorem exs_cons : exs G rc (s :: ss) ρ S = (ex G rc s ρ S).seq (exs G rc ss) := (rfl)
def sBind (r : Option Env) (S : Sto) : RS := match r with
    | some ρ => .nx ρ S
    | none => .bad
@[simp] theorem sBind_s : sBind (some ρ) S = .nx ρ S := (rfl)
def sAsg (t : Tg) (ρ : Env) : Vl → Sto → RS := fun v S => sBind (bindT t v ρ) S
@[simp] theorem sAsg_v : sAsg (.var n) ρ x S = .nx (ρ.set n (some x)) S := (rfl)
@[simp] theorem sAsg_t {ts : List Tg} : sAsg (.tup ts) ρ x S = sBind (bindT (.tup ts) x ρ) S := (rfl)
@[simp] theorem ex_asg : ex G rc (.asg t e) ρ S = (ev G rc e ρ S).thn ρ (sAsg t ρ) := (rfl)
def sStore (ρ : Env) (r : Option Sto) : RS := match r with
    | some S => .nx ρ S
    | none => .bad
@[simp] theorem sStore_s : sStore ρ (some S) = .nx ρ S := (rfl)
def sSub3 (ρ : Env) (v x : Vl) : Vl → Sto → RS := fun k S => sStore ρ (setItem x k v S)
@[simp] theorem sSub3_a : sSub3 ρ x y z S = sStore ρ (setItem y z x S) := (rfl)
def sSub2 (G : Gm) (rc : Rc) (i : Ex) (ρ : Env) (v : Vl) : Vl → Sto → RS := fun x S => (ev G rc i ρ S).thn ρ (sSub3 ρ v x)
@[simp] theorem sSub2_a : sSub2 G rc a ρ x y S = (ev G rc a ρ S).thn ρ (sSub3 ρ x y) := (rfl)
def sSub (G : Gm) (rc : Rc) (o i : Ex) (ρ : Env) : Vl → Sto → RS := fun v S => (ev G rc o ρ S).thn ρ (sSub2 G rc i ρ v)
@[simp] theorem sSub_a : sSub G rc a b ρ x S = (ev G rc a ρ S).thn ρ (sSub2 G rc b ρ x) := (rfl)
@[simp] theorem ex_sub : ex G rc (.sub a b e) ρ S = (ev G rc e ρ S).thn ρ (sSub G rc a b ρ) := (rfl)
def sFld2 (f : Nat) (cs : List Nat) (ρ : Env) (v : Vl) : Vl → Sto → RS := fun x S => sStore ρ (setField x v f cs S)
@[simp] theorem sFld2_a {cs : List Nat} : sFld2 n cs ρ x y S = sStore ρ (setField y x n cs S) := (rfl)
def sFld (G : Gm) (rc : Rc) (o : Ex) (f : Nat) (cs : List Nat) (ρ : Env) : Vl → Sto → RS := fun v S => (ev G rc o ρ S).thn ρ (sFld2 f cs ρ v)
@[simp] theorem sFld_a {cs : List Nat} : sFld G rc a n cs ρ x S = (ev G rc a ρ S).thn ρ (sFld2 n cs ρ x) := (rfl)
@[simp] theorem ex_fld {cs : List Nat} : ex G rc (.fld a n cs e) ρ S = (ev G rc e ρ S).thn ρ (sFld G rc a n cs ρ) := (rfl)
def sFa4 (f : Nat) (cs : List Nat) (ρ : Env) (x : Vl) : Vl → Sto → RS := fun z S => sStore ρ (setField x z f cs S)
@[simp] theorem sFa4_a {cs : List Nat} : sFa4 n cs ρ x y S = sStore ρ (setField x y n cs S) := (rfl)
def sFa3 (f : Nat) (cs : List Nat) (o : Op) (ρ : Env) (x u : Vl) : Vl → Sto → RS := fun y S => (augop o u y S).thn ρ (sFa4 f cs ρ x)
@[simp] theorem sFa3_a {cs : List Nat} : sFa3 n cs o ρ x y z S = (augop o y z S).thn ρ (sFa4 n cs ρ x) := (rfl)
def sFa2 (G : Gm) (rc : Rc) (f : Nat) (cs : List Nat) (o : Op) (e : Ex) (ρ : Env) (x : Vl) : Vl → Sto → RS := fun u S => (ev G rc e ρ S).thn ρ (sFa3 f cs o ρ x u)
@[simp] theorem sFa2_a {cs : List Nat} : sFa2 G rc n cs o e ρ x y S = (ev G rc e ρ S).thn ρ (sFa3 n cs o ρ x y) := (rfl)
def sFa1 (G : Gm) (rc : Rc) (f : Nat) (cs : List Nat) (o : Op) (e : Ex) (ρ : Env) : Vl → Sto → RS := fun x S => (field x f cs S).thn ρ (sFa2 G rc f cs o e ρ x)
@[simp] theorem sFa1_a {cs : List Nat} : sFa1 G rc n cs o e ρ x S = (field x n cs S).thn ρ (sFa2 G rc n cs o e ρ x) := (rfl)
@[simp] theorem ex_fldaug {cs : List Nat} : ex G rc (.fldaug a n cs o e) ρ S = (ev G rc a ρ S).thn ρ (sFa1 G rc n cs o e ρ) := (rfl)
def sPar2 (n m : Nat) (ρ : Env) (v : Vl) : Vl → Sto → RS := fun w S => .nx ((ρ.set n (some v)).set m (some w)) S
@[simp] theorem sPar2_a : sPar2 n m ρ x y S = .nx ((ρ.set n (some x)).set m (some y)) S := (rfl)
def sPar (G : Gm) (rc : Rc) (n m : Nat) (b : Ex) (ρ : Env) : Vl → Sto → RS := fun v S => (ev G rc b ρ S).thn ρ (sPar2 n m ρ v)
@[simp] theorem sPar_a : sPar G rc n m b ρ x S = (ev G rc b ρ S).thn ρ (sPar2 n m ρ x) := (rfl)
@[simp] theorem ex_par : ex G rc (.par n m a b) ρ S = (ev G rc a ρ S).thn ρ (sPar G rc n m b ρ) := (rfl)
def sSet (n : Nat) (ρ : Env) : Vl → Sto → RS := fun z S => .nx (ρ.set n (some z)) S
@[simp] theorem sSet_a : sSet n ρ x S = .nx (ρ.set n (some x)) S := (rfl)
def sAug2 (n : Nat) (o : Op) (ρ : Env) (x : Vl) : Vl → Sto → RS := fun y S => (augop o x y S).thn ρ (sSet n ρ)
@[simp] theorem sAug2_a : sAug2 n o ρ x y S = (augop o x y S).thn ρ (sSet n ρ) := (rfl)
def sAug (G : Gm) (rc : Rc) (n : Nat) (o : Op) (e : Ex) (ρ : Env) : Vl → Sto → RS := fun x S => (ev G rc e ρ S).thn ρ (sAug2 n o ρ x)
@[simp] theorem sAug_a : sAug G rc n o e ρ x S = (ev G rc e ρ S).thn ρ (sAug2 n o ρ x) := (rfl)
@[simp] theorem ex_aug : ex G rc (.aug n o e) ρ S = (pick ((ρ[n]?).bind id) S).thn ρ (sAug G rc n o e ρ) := (rfl)
def sNx (ρ : Env) : Vl → Sto → RS := fun _ S => .nx ρ S
@[simp] theorem sNx_a : sNx ρ x S = .nx ρ S := (rfl)
@[simp] theorem ex_expr : ex G rc (.expr e) ρ S = (ev G rc e ρ S).thn ρ (sNx ρ) := (rfl)
@[simp] theorem ex_ret : ex G rc (.ret e) ρ S = (ev G rc e ρ S).thn ρ sRt := (rfl)
def sIf2 (G : Gm) (rc : Rc) (ss tt : List St) (ρ : Env) : Bool → Sto → RS := fun k S => if k then exs G rc ss ρ S else exs G rc tt ρ S
@[simp] theorem sIf2_t : sIf2 G rc ss tt ρ true S = exs G rc ss ρ S := (rfl)
@[simp] theorem sIf2_f : sIf2 G rc ss tt ρ false S = exs G rc tt ρ S := (rfl)
def sIf (G : Gm) (rc : Rc) (ss tt : List St) (ρ : Env) : Vl → Sto → RS := fun x S => (tru x S).thn ρ (sIf2 G rc ss tt ρ)
@[simp] theorem sIf_a : sIf G rc ss tt ρ x S = (tru x S).thn ρ (sIf2 G rc ss tt ρ) := (rfl)
@[simp] theorem ex_ifs : ex G rc (.ifs c ss tt) ρ S = (ev G rc c ρ S).thn ρ (sIf G rc ss tt ρ) := (rfl)
/-- a while's test -/
def tst (G : Gm) (rc : Rc) (c : Ex) : Env → Sto → Res Bool := fun ρ S => (ev G rc c ρ S).bind tru
@[simp] theorem tst_a : tst G rc c ρ S = (ev G rc c ρ S).bind tru := (rfl)
@[simp] theorem ex_whl : ex G rc (.whl c ss) ρ S = whl (tst G rc c) (exs G rc ss) G.fuel ρ S := (rfl)
def unl (lk : Option (Nat × Cell)) : Sto → Sto := fun S => unlock S lk
@[simp] theorem unl_a {lk : Option (Nat × Cell)} : unl lk S = unlock S lk := (rfl)
def sFor (G : Gm) (rc : Rc) (t : Tg) (ss : List St) (ρ : Env) : List Vl × Option (Nat × Cell) → Sto → RS := fun q S => (fors (exs G rc ss) t q.1 ρ (lock S q.2)).mapS (unl q.2)
@[simp] theorem sFor_a {lk : Option (Nat × Cell)} : sFor G rc t ss ρ (vs, lk) S = (fors (exs G rc ss) t vs ρ (lock S lk)).mapS (unl lk) := (rfl)
@[simp] theorem ex_fors {k : Ik} : ex G rc (.fors t k es ss) ρ S = ((evs G rc es ρ S).bind (kWk k)).thn ρ (sFor G rc t ss ρ) := (rfl)
@[simp] theorem ex_brk : ex G rc .brk ρ S = .bk ρ S := (rfl)
@[simp] theorem ex_cnt : ex G rc .cnt ρ S = .ct ρ S := (rfl)
@[simp] theorem ex_pass : ex G rc .pass ρ S = .nx ρ S := (rfl)
def sFrz (r : Option (Env × Sto)) : RS := match r with
    | some (ρ, S) => .nx ρ S
    | none => .bad
@[simp] theorem sFrz_s : sFrz (some (ρ, S)) = .nx ρ S := (rfl)
@[simp] theorem ex_frz {is : List Nat} : ex G rc (.frz is) ρ S = sFrz (frz is ρ S) := (rfl)
@[simp] theorem pures_nil : pures [] = some [] := (rfl)
@[simp] theorem pures_d : pures (.d d :: vs) = (pures vs).map (d :: ·) := by
  show (match Vl.d d, pures vs with
    | .d x, some xs => some (x :: xs)
    | _, _ => none) = _
  cases pures vs <;> rfl
@[simp] theorem lock_none : lock S none = S := (rfl)
@[simp] theorem unlock_none : unlock S none = S := (rfl)
@[simp] theorem wipe_nil : wipe ρ [] = ρ := (rfl)
@[simp] theorem wipe_cons {ns : List Nat} : wipe ρ (n :: ns) = (wipe ρ ns).set n none := (rfl)
end
/-- what is left of a run behind a def's body -/
def outA (S : Sto) (r : RS) : Res Vl := match r with
  | .nx _ _ => .ok (.d .non) S
  | .rt v S' => goOut S v S'
  | .exc e _ _ => .exc e S
  | _ => .bad
def outI (r : RS) : Res Vl := match r with
  | .nx _ S' => .ok (.d .non) S'
  | .exc e _ S' => .exc e S'
  | _ => .bad
@[simp] theorem outI_nx {ρ : Env} {S : Sto} : outI (.nx ρ S) = .ok (.d .non) S := (rfl)
def outK (keep : Bool) (S : Sto) (r : RS) : Res Vl := match r with
  | .nx _ S' => leave keep S (.d .non) S'
  | .rt v S' => leave keep S v S'
  | .exc e _ S' => .exc e S'
  | _ => .bad
section
variable {S S' : Sto} {v : Vl} {ρ : Env} {e : Exn} {k : Bool} {d : D} {n : Nat}
@[simp] theorem outA_nx : outA S (.nx ρ S') = .ok (.d .non) S := (rfl)
@[simp] theorem outA_rt : outA S (.rt v S') = goOut S v S' := (rfl)
@[simp] theorem outK_nx : outK k S (.nx ρ S') = leave k S (.d .non) S' := (rfl)
@[simp] theorem outK_rt : outK k S (.rt v S') = leave k S v S' := (rfl)
@[simp] theorem goOut_d : goOut S (.d d) S' = .ok (.d d) S := (rfl)
@[simp] theorem leave_k : leave true S v S' = .ok v S' := (rfl)
theorem run_alone {G : Gm} {k f : Nat} {as : List Vl} {S : Sto} {d : Df} (h : G.defs f = some d) (ha : d.alone = true) (hl : as.length = d.params) (hda : as.all dataO = true) (hi : d.init = false := by rfl) : run G (k + 1) f as S = outA S (exs G (run G k) d.body (as.map some ++ List.replicate (d.slots - d.params) none) []) := by
  unfold run
  rw [h]
  dsimp only
  rw [if_pos (beq_iff_eq.mpr hl), if_neg (by rw [hi]; exact Bool.false_ne_true), if_pos ha, if_pos hda]
  rfl
theorem run_keep {G : Gm} {k f : Nat} {as : List Vl} {S : Sto} {d : Df} (h : G.defs f = some d) (ha : d.alone = false) (hl : as.length = d.params) (hi : d.init = false := by rfl) : run G (k + 1) f as S = outK d.keep S (exs G (run G k) d.body (as.map some ++ List.replicate (d.slots - d.params) none) S) := by
  unfold run
  rw [h]
  dsimp only
  rw [if_pos (beq_iff_eq.mpr hl), if_neg (by rw [hi]; exact Bool.false_ne_true), if_neg (by rw [ha]; exact Bool.false_ne_true)]
  rfl
theorem run_init {G : Gm} {k f : Nat} {as : List Vl} {S : Sto} {d : Df} (h : G.defs f = some d) (hi : d.init = true) (hl : as.length = d.params) : run G (k + 2) f as S = outI (exs G (run G k) d.body (as.map some ++ List.replicate (d.slots - d.params) none) S) := by
  unfold run
  rw [h]
  dsimp only
  rw [if_pos (beq_iff_eq.mpr hl), if_pos hi]
  rfl
end
section
variable {i j : Int} {s t : Tx} {b c : Bool} {x y : D} {xs ys : List D} {S : Sto} {n : Nat} {v w : Vl}
@[simp] theorem add_int : binop .add (.d (.int i)) (.d (.int j)) S = .ok (.d (.int (i + j))) S := (rfl)
@[simp] theorem add_str : binop .add (.d (.str s)) (.d (.str t)) S = if decide (s.length + t.length ≤ most) then .ok (.d (.str (s ++ t))) S else .bad := (rfl)
@[simp] theorem add_tup : binop .add (.d (.tup xs)) (.d (.tup ys)) S = if decide (xs.length + ys.length ≤ most) then .ok (.d (.tup (xs ++ ys))) S else .bad := (rfl)
@[simp] theorem pures_map (ds : List D) : pures (ds.map .d) = some ds := by
  induction ds with
  | nil => rfl
  | cons a ns ih => simp [pures, ih]
@[simp] theorem pures_map' (ds : List D) : pures (ds.map fun x => .d x) = some ds := pures_map ds
@[simp] theorem pures_mapf {τ : Type} (f : τ → D) (ds : List τ) : pures (ds.map fun x => .d (f x)) = some (ds.map f) := by
  induction ds with
  | nil => rfl
  | cons a ns ih => simp [pures, ih]
@[simp] theorem add_lst : binop .add (.d (.lst xs)) (.d (.lst ys)) S = if decide (xs.length + ys.length ≤ most) then .ok (.d (.lst (xs ++ ys))) S else .bad := by
  simp [binop, opAdd, catL, listOf]
@[simp] theorem sub_int : binop .sub (.d (.int i)) (.d (.int j)) S = .ok (.d (.int (i - j))) S := (rfl)
@[simp] theorem mul_int : binop .mul (.d (.int i)) (.d (.int j)) S = if cMul i j then .ok (.d (.int (i * j))) S else .bad := (rfl)
@[simp] theorem mul_lst : binop .mul (.d (.lst xs)) (.d (.int j)) S = if decide (-(2 ^ 63) ≤ j) && decide (j < 2 ^ 63) && decide (xs.length * j.toNat ≤ most) then .ok (.d (.lst (List.replicate j.toNat xs).flatten)) S else .bad := by
  simp [binop, opMul, repL, listOf]
@[simp] theorem lt_big {j : Int} (h : j < 1073741824) : (j < big) = True := eq_true (Int.lt_trans h (by decide))
@[simp] theorem fdiv_int : binop .fdiv (.d (.int i)) (.d (.int j)) S = if decide (0 < j) && decide (j < big) then .ok (.d (.int (i / j))) S else .bad := (rfl)
@[simp] theorem mod_int : binop .mod (.d (.int i)) (.d (.int j)) S = if decide (0 < j) then .ok (.d (.int (i % j))) S else .bad := (rfl)
@[simp] theorem pow_int : binop .pow (.d (.int i)) (.d (.int j)) S = if cPow i j then .ok (.d (.int (i ^ j.toNat))) S else .bad := (rfl)
@[simp] theorem shl_int : binop .shl (.d (.int i)) (.d (.int j)) S = if cPow i j then .ok (.d (.int (i * 2 ^ j.toNat))) S else .bad := (rfl)
@[simp] theorem augadd_int : augop .add (.d (.int i)) (.d (.int j)) S = .ok (.d (.int (i + j))) S := (rfl)
@[simp] theorem augadd_str : augop .add (.d (.str s)) (.d (.str t)) S = if decide (s.length + t.length ≤ most) then .ok (.d (.str (s ++ t))) S else .bad := (rfl)
@[simp] theorem augsub_int : augop .sub (.d (.int i)) (.d (.int j)) S = .ok (.d (.int (i - j))) S := (rfl)
@[simp] theorem eq_a : cmpop .eq v w S = cEqv false v w S := (rfl)
@[simp] theorem ne_a : cmpop .ne v w S = cEqv true v w S := (rfl)
@[simp] theorem eqv_dd (k : Bool) : cEqv k (.d x) (.d y) S = if eqOk x y then .ok (.d (.bl (if k then !eqv x y else eqv x y))) S else .bad := (rfl)
@[simp] theorem lt_int : cmpop .lt (.d (.int i)) (.d (.int j)) S = .ok (.d (.bl (decide (i < j)))) S := (rfl)
@[simp] theorem le_int : cmpop .le (.d (.int i)) (.d (.int j)) S = .ok (.d (.bl (decide (i ≤ j)))) S := (rfl)
@[simp] theorem gt_int : cmpop .gt (.d (.int i)) (.d (.int j)) S = .ok (.d (.bl (decide (j < i)))) S := (rfl)
@[simp] theorem ge_int : cmpop .ge (.d (.int i)) (.d (.int j)) S = .ok (.d (.bl (decide (j ≤ i)))) S := (rfl)
@[simp] theorem lt_str : cmpop .lt (.d (.str s)) (.d (.str t)) S = .ok (.d (.bl (ltTx s t))) S := (rfl)
@[simp] theorem lt_tup : cmpop .lt (.d (.tup xs)) (.d (.tup ys)) S = if ordOk (.tup xs) (.tup ys) then .ok (.d (.bl (ltDt (.tup xs) (.tup ys)))) S else .bad := (rfl)
@[simp] theorem le_tup : cmpop .le (.d (.tup xs)) (.d (.tup ys)) S = if ordOk (.tup xs) (.tup ys) then .ok (.d (.bl (!ltDt (.tup ys) (.tup xs)))) S else .bad := (rfl)
@[simp] theorem gt_tup : cmpop .gt (.d (.tup xs)) (.d (.tup ys)) S = if ordOk (.tup xs) (.tup ys) then .ok (.d (.bl (ltDt (.tup ys) (.tup xs)))) S else .bad := (rfl)
@[simp] theorem ge_tup : cmpop .ge (.d (.tup xs)) (.d (.tup ys)) S = if ordOk (.tup xs) (.tup ys) then .ok (.d (.bl (!ltDt (.tup xs) (.tup ys)))) S else .bad := (rfl)
@[simp] theorem lt_lst : cmpop .lt (.d (.lst xs)) (.d (.lst ys)) S = if ordOk (.lst xs) (.lst ys) then .ok (.d (.bl (ltDt (.lst xs) (.lst ys)))) S else .bad := (rfl)
@[simp] theorem le_lst : cmpop .le (.d (.lst xs)) (.d (.lst ys)) S = if ordOk (.lst xs) (.lst ys) then .ok (.d (.bl (!ltDt (.lst ys) (.lst xs)))) S else .bad := (rfl)
@[simp] theorem gt_lst : cmpop .gt (.d (.lst xs)) (.d (.lst ys)) S = if ordOk (.lst xs) (.lst ys) then .ok (.d (.bl (ltDt (.lst ys) (.lst xs)))) S else .bad := (rfl)
@[simp] theorem ge_lst : cmpop .ge (.d (.lst xs)) (.d (.lst ys)) S = if ordOk (.lst xs) (.lst ys) then .ok (.d (.bl (!ltDt (.lst xs) (.lst ys)))) S else .bad := (rfl)
@[simp] theorem le_str : cmpop .le (.d (.str s)) (.d (.str t)) S = .ok (.d (.bl (!ltTx t s))) S := (rfl)
@[simp] theorem gt_str : cmpop .gt (.d (.str s)) (.d (.str t)) S = .ok (.d (.bl (ltTx t s))) S := (rfl)
@[simp] theorem ge_str : cmpop .ge (.d (.str s)) (.d (.str t)) S = .ok (.d (.bl (!ltTx s t))) S := (rfl)
@[simp] theorem is_non : cmpop .is v (.d .non) S = .ok (.d (.bl (isNone v))) S := (rfl)
@[simp] theorem isn_non : cmpop .isn v (.d .non) S = .ok (.d (.bl (!isNone v))) S := (rfl)
@[simp] theorem is_bl : cmpop .is (.d (.bl b)) (.d (.bl c)) S = .ok (.d (.bl (decide (b = c)))) S := (rfl)
@[simp] theorem is_non_bl : cmpop .is (.d .non) (.d (.bl c)) S = .ok (.d (.bl false)) S := (rfl)
@[simp] theorem isn_non_bl : cmpop .isn (.d .non) (.d (.bl c)) S = .ok (.d (.bl true)) S := (rfl)
theorem inAny_lst : inAny (.d x) (.d (.lst xs)) S = contains (.d x) (.d (.lst xs)) S := (rfl)
theorem inAny_tup : inAny (.d x) (.d (.tup xs)) S = contains (.d x) (.d (.tup xs)) S := (rfl)
theorem cMem_dct {k t : Bool} {kvs : List (D × Vl)} (h : S[n]? = some (.dct t kvs)) (hk : keyOk t x = true) : cMem k (.d x) (.p n) S = .ok (.d (.bl (if k then !(kvFind kvs x).isSome else (kvFind kvs x).isSome))) S := by
  simp [cMem, inAny, inDct, h, hk]
theorem cMem_dd {k t : Bool} {us : List D} (hk : (keyOk t x && xs.length == us.length) = true) : cMem k (.d x) (.d (.dct t xs us)) S = .ok (.d (.bl (if k then !(kvFind (xs.zip us) x).isSome else (kvFind (xs.zip us) x).isSome))) S := by
  unfold cMem inAny inDct
  simp only [hk, if_true]
@[simp] theorem cMem_wd {k : Bool} {ks : List Tx} : cMem k (.d (.str s)) (.d (.wd ks xs)) S = .ok (.d (.bl (if k then !(wdFind ks xs s).isSome else (wdFind ks xs s).isSome))) S := (rfl)
@[simp] theorem index_wd {ks : List Tx} : index (.d (.wd ks xs)) (.d (.str s)) S = (match wdFind ks xs s with
  | some y => .ok (.d y) S
  | none => .bad) := (rfl)
theorem memL_flat {k : Bool} (hx : isFlat x = true) (hs : xs.all isFlat = true) : cMem k (.d x) (.d (.lst xs)) S = .ok (.d (.bl (if k then !(xs.any fun e => eqv e x) else xs.any fun e => eqv e x))) S := by
  simp [cMem, inAny, inDct, contains, seqOf, memFlat, hx, hs]
theorem memT_flat {k : Bool} (hx : isFlat x = true) (hs : xs.all isFlat = true) : cMem k (.d x) (.d (.tup xs)) S = .ok (.d (.bl (if k then !(xs.any fun e => eqv e x) else xs.any fun e => eqv e x))) S := by
  simp [cMem, inAny, inDct, contains, seqOf, memFlat, hx, hs]
theorem memL_deep {k : Bool} (hx : isData 64 x = true) (hs : isData 64 (.lst xs) = true) : cMem k (.d x) (.d (.lst xs)) S = .ok (.d (.bl (if k then !(xs.any fun e => eqv e x) else xs.any fun e => eqv e x))) S := by
  by_cases hf : (isFlat x && xs.all isFlat) = true
  · rw [Bool.and_eq_true] at hf
    exact memL_flat hf.1 hf.2
  · simp [cMem, inAny, inDct, contains, seqOf, listOf, memFlat, hf, hx, hs]
@[simp] theorem mem_chr {k : Bool} {c : Nat} : cMem k (.d (.str [c])) (.d (.str t)) S = .ok (.d (.bl (if k then !decide (c ∈ t) else decide (c ∈ t)))) S := (rfl)
@[simp] theorem mem_a : cmpop .mem v w S = cMem false v w S := (rfl)
@[simp] theorem nmem_a : cmpop .nmem v w S = cMem true v w S := (rfl)
@[simp] theorem isNone_non : isNone (.d .non) = true := (rfl)
@[simp] theorem isNone_bl : isNone (.d (.bl b)) = false := (rfl)
@[simp] theorem isNone_int : isNone (.d (.int i)) = false := (rfl)
@[simp] theorem isNone_str : isNone (.d (.str s)) = false := (rfl)
@[simp] theorem isNone_tup : isNone (.d (.tup xs)) = false := (rfl)
@[simp] theorem isNone_lst : isNone (.d (.lst xs)) = false := (rfl)
@[simp] theorem isNone_p : isNone (.p n) = false := (rfl)
@[simp] theorem tru_non : tru (.d .non) S = .ok false S := (rfl)
@[simp] theorem tru_bl : tru (.d (.bl b)) S = .ok b S := (rfl)
@[simp] theorem tru_int : tru (.d (.int i)) S = .ok (i != 0) S := (rfl)
@[simp] theorem tru_lst : tru (.d (.lst xs)) S = .ok (!xs.isEmpty) S := (rfl)
@[simp] theorem tru_tup : tru (.d (.tup xs)) S = .ok (!xs.isEmpty) S := (rfl)
@[simp] theorem truthy_str : truthy (.d (.str s)) S = if decide (s.length ≤ most) then some ((s.length : Int) != 0) else none := (rfl)
@[simp] theorem tru_str : tru (.d (.str s)) S = match truthy (.d (.str s)) S with
  | some b => .ok b S
  | none => .bad := (rfl)
@[simp] theorem bf1_len {k : Bool} : builtin .len k [v] S = bLen v S := (rfl)
@[simp] theorem bf1_abs {k : Bool} : builtin .abs k [.d (.int i)] S = .ok (.d (.int (if i < 0 then -i else i))) S := (rfl)
@[simp] theorem bf1_int {k : Bool} : builtin .int k [.d (.int i)] S = .ok (.d (.int i)) S := (rfl)
@[simp] theorem bf1_intb {k : Bool} : builtin .int k [.d (.bl b)] S = .ok (.d (.int (if b then 1 else 0))) S := (rfl)
@[simp] theorem bf1_list {k : Bool} : builtin .list k [v] S = bList k v S := (rfl)
@[simp] theorem bf1_tuple {k : Bool} : builtin .tuple k [v] S = bTuple v S := (rfl)
@[simp] theorem bf1_dict {k : Bool} : builtin .dict k [v] S = bDict k v S := (rfl)
@[simp] theorem bf1_repr {k : Bool} : builtin .repr k [v] S = bRepr v S := (rfl)
@[simp] theorem bf1_sset {k : Bool} : builtin .sset k [v] S = bSset k v S := (rfl)
@[simp] theorem bf1_sum {k : Bool} : builtin .sum k [v] S = bOf intL (fun is => .int is.sum) v S := (rfl)
@[simp] theorem bf1_any {k : Bool} : builtin .any k [v] S = bOf boolL (fun bs => .bl (bs.any id)) v S := (rfl)
@[simp] theorem bf1_all {k : Bool} : builtin .all k [v] S = bOf boolL (fun bs => .bl (bs.all id)) v S := (rfl)
@[simp] theorem bf1_isi {k : Bool} {ts : List Nat} : builtin (.isinst ts) k [v] S = bIsi ts v S := (rfl)
@[simp] theorem bf1_sorted {k : Bool} : builtin .sorted k [v] S = bSorted k v S := (rfl)
@[simp] theorem bSorted_lst {k : Bool} : bSorted k (.d (.lst xs)) S = if sortOk xs then newList k ((xs.mergeSort leDt).map .d) S else .bad := by
  simp [bSorted, listOf]
@[simp] theorem bm1_index : method .index (.d (.lst xs)) [w] S = mIndex (.d (.lst xs)) w S := (rfl)
@[simp] theorem bm1_indexS : method .index (.d (.str s)) [w] S = sIndex (.d (.str s)) w S := (rfl)
@[simp] theorem bmTy_indexL : bmTy .index (.d (.lst xs)) S = true := (rfl)
@[simp] theorem bmTy_indexS : bmTy .index (.d (.str s)) S = true := (rfl)
theorem mIndex_lst : mIndex (.d (.lst xs)) (.d y) S = if isData 64 (.lst xs) && isData 64 y then (match xs.findIdx? (fun e => eqv e y) with
      | some j => .ok (.d (.int (j : Int))) S
      | none => .bad) else .bad := by
  show (match pures (xs.map .d) with
    | some ds => if isData 64 (.lst ds) && isData 64 y then (match ds.findIdx? (fun e => eqv e y) with
      | some j => Res.ok (Vl.d (.int (j : Int))) S
      | none => .bad) else .bad
    | none => .bad) = _
  rw [pures_map]
@[simp] theorem bf2_min {k : Bool} : builtin .min k [.d (.int i), .d (.int j)] S = .ok (.d (.int (if j < i then j else i))) S := (rfl)
@[simp] theorem bf2_max {k : Bool} : builtin .max k [.d (.int i), .d (.int j)] S = .ok (.d (.int (if j > i then j else i))) S := (rfl)
@[simp] theorem bOf_lst {τ : Type} {f : List D → Option τ} {g : τ → D} : bOf f g (.d (.lst xs)) S = match f xs with
  | some t => .ok (.d (g t)) S
  | none => .bad := by
  show (match pures (xs.map .d) with
    | some ds => match f ds with
      | some t => Res.ok (Vl.d (g t)) S
      | none => .bad
    | none => .bad) = _
  rw [pures_map]
@[simp] theorem seqOf_lst : seqOf (.d (.lst xs)) S = some (xs.map .d) := (rfl)
@[simp] theorem seqOf_tup : seqOf (.d (.tup xs)) S = some (xs.map .d) := (rfl)
@[simp] theorem seqOf_str : seqOf (.d (.str s)) S = none := (rfl)
@[simp] theorem listOf_lst : listOf (.d (.lst xs)) S = some (xs.map .d) := (rfl)
@[simp] theorem listOf_str : listOf (.d (.str s)) S = none := (rfl)
@[simp] theorem listOf_tup : listOf (.d (.tup xs)) S = none := (rfl)
@[simp] theorem bLen_lst : bLen (.d (.lst xs)) S = .ok (.d (.int xs.length)) S := by simp [bLen]
@[simp] theorem bLen_tup : bLen (.d (.tup xs)) S = .ok (.d (.int xs.length)) S := by simp [bLen]
theorem bLen_keys {ks : List D} (h : seqOf v S = none) (h2 : ∀ s, v ≠ .d (.str s)) (hk : keysOf v S = some ks) : bLen v S = .ok (.d (.int ks.length)) S := by
  unfold bLen
  rw [h]
  dsimp only
  split
  · rename_i z; exact absurd rfl (h2 z)
  · rw [hk]
@[simp] theorem bLen_str : bLen (.d (.str s)) S = if decide (s.length ≤ most) then .ok (.d (.int s.length)) S else .bad := (rfl)
@[simp] theorem bIsi_non {ts : List Nat} : bIsi ts (.d .non) S = .ok (.d (.bl false)) S := by simp [bIsi, isTypes, typeOf]
@[simp] theorem bIsi_bl {ts : List Nat} : bIsi ts (.d (.bl b)) S = .ok (.d (.bl (ts.any fun t => [0, 4].contains t))) S := (rfl)
@[simp] theorem bIsi_int {ts : List Nat} : bIsi ts (.d (.int i)) S = .ok (.d (.bl (ts.any fun t => [0].contains t))) S := (rfl)
@[simp] theorem bIsi_str {ts : List Nat} : bIsi ts (.d (.str s)) S = .ok (.d (.bl (ts.any fun t => [1].contains t))) S := (rfl)
@[simp] theorem bIsi_lst {ts : List Nat} : bIsi ts (.d (.lst xs)) S = .ok (.d (.bl (ts.any fun t => [2].contains t))) S := (rfl)
@[simp] theorem bIsi_tup {ts : List Nat} : bIsi ts (.d (.tup xs)) S = .ok (.d (.bl (ts.any fun t => [3].contains t))) S := (rfl)
@[simp] theorem bm1_append : method .append v [w] S = mAppend v w S := (rfl)
@[simp] theorem bm1_extend : method .extend v [w] S = mExtend v w S := (rfl)
@[simp] theorem bm0_pop : method .pop v [] S = mPop v S := (rfl)
@[simp] theorem bm1_join : method .join v [w] S = mJoin v w S := (rfl)
@[simp] theorem bm1_count : method .count (.d (.str s)) [.d (.str t)] S = .ok (.d (.int (Txt.count (mk s) (mk t)))) S := (rfl)
@[simp] theorem bm1_rfind : method .rfind (.d (.str s)) [.d (.str t)] S = .ok (.d (.int (Txt.rfind (mk s) (mk t)))) S := (rfl)
@[simp] theorem bm1_startswith : method .startswith (.d (.str s)) [.d (.str t)] S = .ok (.d (.bl (Txt.startswith (mk s) (mk t)))) S := (rfl)
@[simp] theorem bmTy_append : bmTy .append v S = (listOf v S).isSome := (rfl)
@[simp] theorem bmTy_extend : bmTy .extend v S = (listOf v S).isSome := (rfl)
@[simp] theorem bmTy_pop : bmTy .pop v S = (listOf v S).isSome := (rfl)
@[simp] theorem bmTy_join : bmTy .join v S = isStr v := (rfl)
@[simp] theorem bmTy_count : bmTy .count v S = isStr v := (rfl)
@[simp] theorem bmTy_rfind : bmTy .rfind v S = isStr v := (rfl)
@[simp] theorem bmTy_startswith : bmTy .startswith v S = isStr v := (rfl)
@[simp] theorem isStr_d : isStr (.d (.str s)) = true := (rfl)
end
section
variable {i j : Int} {s t : Tx} {b c : Bool} {x y : D} {xs ys : List D} {S : Sto} {n : Nat} {v w : Vl}
theorem wk_rng (h1 : (-4611686018427387904 : Int) ≤ i) (h2 : i < 4611686018427387904) : walkF .range [.d (.int i)] S = .ok ((List.range i.toNat).map fun (j : Nat) => .d (.int (j : Int)), none) S := by
  have e : (decide (-(2 ^ 62) ≤ i) && decide (i < 2 ^ 62)) = true := by
    rw [Bool.and_eq_true]
    exact ⟨decide_eq_true (by omega), decide_eq_true (by omega)⟩
  show (match (if (decide (-(2 ^ 62) ≤ i) && decide (i < 2 ^ 62)) = true then some ((List.range i.toNat).map fun (j : Nat) => Vl.d (.int (j : Int)), (none : Option (Nat × Cell))) else none) with
    | some q => Res.ok q S
    | none => .bad) = _
  rw [if_pos e]
theorem wk_rngN (h2 : n < 4611686018427387904) : walkF .range [.d (.int (n : Int))] S = .ok ((List.range n).map fun (j : Nat) => .d (.int (j : Int)), none) S := by
  rw [wk_rng (by omega) (by omega), Int.toNat_natCast]
theorem wk_rng2 (h1 : (-4611686018427387904 : Int) ≤ i) (h2 : i < 4611686018427387904) (h3 : (-4611686018427387904 : Int) ≤ j) (h4 : j < 4611686018427387904) : walkF .range [.d (.int i), .d (.int j)] S = .ok (rngs i j, none) S := by
  have e : (inRng i && inRng j) = true := by
    unfold inRng
    rw [Bool.and_eq_true, Bool.and_eq_true, Bool.and_eq_true]
    exact ⟨⟨decide_eq_true (by omega), decide_eq_true (by omega)⟩, decide_eq_true (by omega), decide_eq_true (by omega)⟩
  show (match ((if (inRng i && inRng j) = true then some (rngs i j) else none).map fun xs => (xs, (none : Option (Nat × Cell)))) with
    | some q => Res.ok q S
    | none => .bad) = _
  rw [if_pos e]
  rfl
@[simp] theorem wk_lst : walkF .seq [.d (.lst xs)] S = .ok (xs.map .d, none) S := (rfl)
@[simp] theorem wk_tup : walkF .seq [.d (.tup xs)] S = .ok (xs.map .d, none) S := (rfl)
@[simp] theorem wk_str : walkF .seq [.d (.str s)] S = .ok (s.map fun c => .d (.str [c]), none) S := (rfl)
@[simp] theorem wk_scr {ns : List Int} : walkF .seq [.d (.scr ns)] S = .ok (ns.map fun i => .d (.int i), none) S := (rfl)
theorem wk_cell {vs : List Vl} (h : S[n]? = some (.lst vs)) : walkF .seq [.p n] S = .ok (vs, some (n, .lst vs)) S := by
  simp [walkF, walked, seqOf, lockOf, h]
@[simp] theorem wk_enum : walkF .enum [.d (.lst xs)] S = .ok (((List.range xs.length).zip xs).map fun p => .d (.tup [.int (p.1 : Int), p.2]), none) S := by
  simp [walkF, walked, lockOf]
@[simp] theorem wk_rev : walkF .rev [.d (.lst xs)] S = .ok ((xs.map .d).reverse, none) S := (rfl)
end
section
variable {i j : Int} {s t : Tx} {b c : Bool} {x y : D} {xs ys : List D} {S : Sto} {n m : Nat} {v w : Vl} {vs : List Vl} {ρ : Env} {ts : List Tg} {t : Tg}
@[simp] theorem most_x : most = 16777216 := (rfl)
@[simp] theorem newList_f : newList false vs S = if decide (vs.length ≤ most) then (match pures vs with
  | some ds => .ok (.d (.lst ds)) S
  | none => .bad) else .bad := (rfl)
@[simp] theorem newList_t : newList true vs S = if decide (vs.length ≤ most) then .ok (.p S.length) (S ++ [.lst vs]) else .bad := (rfl)
@[simp] theorem bindT_var : bindT (.var n) v ρ = some (ρ.set n (some v)) := by simp only [bindT]
@[simp] theorem bindT_tup : bindT (.tup ts) (.d (.tup xs)) ρ = bindTs ts xs ρ := by simp only [bindT]
@[simp] theorem bindTs_nil : bindTs [] [] ρ = some ρ := by simp only [bindTs]
def bindNx (ts : List Tg) (xs : List D) : Option Env → Option Env
  | some ρ' => bindTs ts xs ρ'
  | none => none
@[simp] theorem bindNx_s : bindNx ts xs (some ρ) = bindTs ts xs ρ := (rfl)
@[simp] theorem bindTs_cons : bindTs (t :: ts) (x :: xs) ρ = bindNx ts xs (bindT t (.d x) ρ) := by
  simp only [bindTs]
  cases bindT t (.d x) ρ <;> rfl
@[simp] theorem isFlat_non : isFlat .non = true := (rfl)
@[simp] theorem isFlat_bl : isFlat (.bl b) = true := (rfl)
@[simp] theorem isFlat_int : isFlat (.int i) = true := (rfl)
@[simp] theorem isFlat_str : isFlat (.str s) = true := (rfl)
@[simp] theorem isFlat_tup : isFlat (.tup xs) = false := (rfl)
@[simp] theorem isFlat_lst : isFlat (.lst xs) = false := (rfl)
@[simp] theorem eqOk_a : eqOk x y = ((isFlat x && isFlat y) || (isData 64 x && isData 64 y)) := (rfl)
@[simp] theorem isData_non : isData n .non = true := by unfold isData; rfl
@[simp] theorem isData_bl : isData n (.bl b) = true := by unfold isData; rfl
@[simp] theorem isData_int : isData n (.int i) = true := by unfold isData; rfl
@[simp] theorem isData_str : isData n (.str s) = s.all fun c => decide (c < 1114112) := by unfold isData; rfl
theorem isData_tup : isData (n + 1) (.tup xs) = isDatas n xs := by rw [isData]
theorem isData_lst : isData (n + 1) (.lst xs) = isDatas n xs := by rw [isData]
@[simp] theorem isDatas_nil : isDatas n [] = true := by unfold isDatas; rfl
@[simp] theorem isDatas_cons : isDatas n (x :: xs) = (isData n x && isDatas n xs) := by rw [isDatas]
def ixOf (S : Sto) : Option D → Res Vl
  | some y => .ok (.d y) S
  | none => .bad
@[simp] theorem ixOf_s : ixOf S (some x) = .ok (.d x) S := (rfl)
@[simp] theorem index_lst : index (.d (.lst xs)) (.d (.int i)) S = ixOf S (atI xs i) := by
  show (match atI xs i with
    | some y => Res.ok (Vl.d y) S
    | none => .bad) = _
  cases atI xs i <;> rfl
@[simp] theorem index_tup : index (.d (.tup xs)) (.d (.int i)) S = ixOf S (atI xs i) := by
  show (match atI xs i with
    | some y => Res.ok (Vl.d y) S
    | none => .bad) = _
  cases atI xs i <;> rfl
@[simp] theorem index_str : index (.d (.str s)) (.d (.int i)) S = if decide (s.length ≤ most) then ixOf S ((atI s i).map fun c => .str [c]) else .bad := by
  show (if decide (s.length ≤ most) then (match atI s i with
    | some c => Res.ok (Vl.d (.str [c])) S
    | none => .bad) else .bad) = _
  cases atI s i <;> rfl
def fldC (f : Nat) (cs : List Nat) (S : Sto) : Option Cell → Res Vl
  | some (.ins c fs) => if cs.contains c then pick (kwFind fs f) S else .bad
  | _ => .bad
@[simp] theorem fldC_a {f c : Nat} {cs : List Nat} {fs : List (Nat × Vl)} : fldC f cs S (some (.ins c fs)) = if cs.contains c then pick (kwFind fs f) S else .bad := (rfl)
@[simp] theorem field_p {f : Nat} {cs : List Nat} : field (.p n) f cs S = fldC f cs S (S[n]?) := by
  show (match S[n]? with
    | some (.ins c fs) => if cs.contains c then (match kwFind fs f with
      | some v => Res.ok v S
      | none => .bad) else .bad
    | _ => .bad) = _
  cases S[n]? with
  | none => rfl
  | some c =>
    cases c with
    | ins c fs =>
      show (if cs.contains c then (match kwFind fs f with
        | some v => Res.ok v S
        | none => .bad) else .bad) = if cs.contains c then pick (kwFind fs f) S else .bad
      cases kwFind fs f <;> rfl
    | _ => rfl
def clsC : Option Cell → Option Nat
  | some (.ins c _) => some c
  | _ => none
@[simp] theorem clsC_a {c : Nat} {fs : List (Nat × Vl)} : clsC (some (.ins c fs)) = some c := (rfl)
@[simp] theorem clsOf_p : clsOf (.p n) S = clsC (S[n]?) := by
  show (match S[n]? with
    | some (.ins c _) => some c
    | _ => none) = _
  cases S[n]? with
  | none => rfl
  | some c => cases c <;> rfl
def sfC (n : Nat) (v : Vl) (f : Nat) (cs : List Nat) (S : Sto) : Option Cell → Option Sto
  | some (.ins c fs) => if cs.contains c && decide (fs.length < 1000) then some (S.set n (.ins c (kwPut fs f v))) else none
  | _ => none
@[simp] theorem sfC_a {f c : Nat} {cs : List Nat} {fs : List (Nat × Vl)} : sfC n v f cs S (some (.ins c fs)) = if cs.contains c && decide (fs.length < 1000) then some (S.set n (.ins c (kwPut fs f v))) else none := (rfl)
@[simp] theorem setField_p {f : Nat} {cs : List Nat} : setField (.p n) v f cs S = sfC n v f cs S (S[n]?) := by
  show (match S[n]? with
    | some (.ins c fs) => if cs.contains c && decide (fs.length < 1000) then some (S.set n (.ins c (kwPut fs f v))) else none
    | _ => none) = _
  cases S[n]? with
  | none => rfl
  | some c => cases c <;> rfl
@[simp] theorem kwFind_cons {α : Type} {f g : Nat} {u : α} {r : List (Nat × α)} : kwFind ((g, u) :: r) f = if g = f then some u else kwFind r f := by
  unfold kwFind
  rw [List.find?_cons]
  by_cases e : g = f
  · simp [e]
  · have e2 : (g == f) = false := by simpa using e
    simp [e, e2]
@[simp] theorem kwPut_nil {α : Type} {f : Nat} {u : α} : kwPut [] f u = [(f, u)] := (rfl)
@[simp] theorem kwPut_cons {α : Type} {f g : Nat} {u w : α} {r : List (Nat × α)} : kwPut ((g, w) :: r) f u = if g = f then (g, u) :: r else (g, w) :: kwPut r f u := (rfl)
def siC (n : Nat) (k : D) (v : Vl) (S : Sto) : Option Cell → Option Sto
  | some (.lst xs) => match k with
    | .int i => (ixN xs.length i).map fun j => S.set n (.lst (xs.set j v))
    | _ => none
  | some (.dct t kvs) => if keyOk t k && decide (kvs.length < most) then some (S.set n (.dct t (kvPut kvs k v))) else none
  | _ => none
theorem setItem_p : setItem (.p n) (.d x) v S = siC n x v S (S[n]?) := by
  show (match S[n]? with
    | some (.lst xs) => match x with
      | .int i => (ixN xs.length i).map fun j => S.set n (.lst (xs.set j v))
      | _ => none
    | some (.dct t kvs) => if keyOk t x && decide (kvs.length < most) then some (S.set n (.dct t (kvPut kvs x v))) else none
    | _ => none) = _
  cases S[n]? with
  | none => rfl
  | some c => cases c <;> cases x <;> rfl
theorem setItem_dct {t : Bool} {kvs : List (D × Vl)} (h : S[n]? = some (.dct t kvs)) : setItem (.p n) (.d x) v S = if keyOk t x && decide (kvs.length < most) then some (S.set n (.dct t (kvPut kvs x v))) else none := by
  rw [setItem_p, h]; rfl
def ixCell (S : Sto) : Option Vl → Res Vl
  | some y => .ok y S
  | none => .bad
@[simp] theorem ixCell_s : ixCell S (some v) = .ok v S := (rfl)
@[simp] theorem index_p : index (.p n) (.d x) S = match S[n]? with
    | some (.lst xs) => match x with
      | .int i => ixCell S (atI xs i)
      | _ => .bad
    | some (.dct t kvs) => if keyOk t x then ixCell S (kvFind kvs x) else .bad
    | _ => .bad := by
  show (match S[n]? with
    | some (.lst xs) => match x with
      | .int i => match atI xs i with
        | some y => Res.ok y S
        | none => .bad
      | _ => .bad
    | some (.dct t kvs) => if keyOk t x then (match kvFind kvs x with
      | some y => Res.ok y S
      | none => .bad) else .bad
    | _ => .bad) = _
  cases S[n]? with
  | none => rfl
  | some c =>
    cases c with
    | lst us =>
      cases x with
      | int i =>
        show (match atI us i with
          | some y => Res.ok y S
          | none => .bad) = ixCell S (atI us i)
        cases atI us i <;> rfl
      | _ => rfl
    | dct t kvs =>
      show (if keyOk t x then (match kvFind kvs x with
          | some y => Res.ok y S
          | none => .bad) else .bad) = if keyOk t x then ixCell S (kvFind kvs x) else .bad
      cases kvFind kvs x <;> rfl
    | _ => rfl
@[simp] theorem atI_a {α : Type} {us : List α} : atI us i = (L2.ixN us.length i).bind fun j => us[j]? := (rfl)
@[simp] theorem ixN_a : L2.ixN n i = if 0 ≤ i then (if i < n then some i.toNat else none) else if -(n : Int) ≤ i then some (i + n).toNat else none := (rfl)
end
end Z
end

section
set_option maxHeartbeats 1000000
set_option maxRecDepth 10000
/-! Z20: what the laws' own helpers do. -/
namespace Z
open PySem L2
def drawB : List Z.St := [.ret (.lst true [.bf (.list) false [.var 0], .con (.int 0), .con (.int 0), .con (.int 17)])]
def nextB : List Z.St := [.ifs (.cmp (.gt) (.ix (.var 0) (.con (.int 2))) (.con (.int 0))) [.asg (.var 2) (.op (.mod) (.bf (.int) false [.ix (.var 0) (.con (.int 2))]) (.var 1)), .sub (.var 0) (.con (.int 2)) (.op (.fdiv) (.ix (.var 0) (.con (.int 2))) (.var 1)), .ret (.var 2)] [], .ifs (.cmp (.lt) (.ix (.var 0) (.con (.int 1))) (.bf (.len) false [.ix (.var 0) (.con (.int 0))])) [.asg (.var 3) (.bf (.abs) false [.ix (.ix (.var 0) (.con (.int 0))) (.ix (.var 0) (.con (.int 1)))]), .sub (.var 0) (.con (.int 1)) (.op (.add) (.ix (.var 0) (.con (.int 1))) (.con (.int 1))), .ifs (.cmp (.ge) (.var 3) (.op (.pow) (.con (.int 10)) (.con (.int 18)))) [.sub (.var 0) (.con (.int 2)) (.op (.fdiv) (.var 3) (.var 1)), .ret (.op (.mod) (.bf (.int) false [.var 3]) (.var 1))] [], .sub (.var 0) (.con (.int 3)) (.op (.mod) (.bf (.int) false [.op (.add) (.op (.add) (.op (.mul) (.ix (.var 0) (.con (.int 3))) (.con (.int 48271))) (.var 3)) (.con (.int 11))]) (.con (.int 2147483647)))] [.sub (.var 0) (.con (.int 3)) (.op (.mod) (.bf (.int) false [.op (.add) (.op (.mul) (.ix (.var 0) (.con (.int 3))) (.con (.int 48271))) (.con (.int 12345))]) (.con (.int 2147483647)))], .ret (.op (.mod) (.op (.fdiv) (.bf (.int) false [.op (.mod) (.op (.mul) (.ix (.var 0) (.con (.int 3))) (.con (.int 69621))) (.con (.int 2147483629))]) (.con (.int 7))) (.var 1))]
def sameB (f : Nat) : List Z.St := [.ifs (.bf (.isinst [2, 3]) false [.var 1]) [.ifs (.or (.cmp (.ne) (.bf (.isinst [2]) false [.var 1]) (.bf (.isinst [2]) false [.var 0])) (.cmp (.ne) (.bf (.isinst [3]) false [.var 1]) (.bf (.isinst [3]) false [.var 0]))) [.ret (.con (.bl false))] [], .ifs (.cmp (.ne) (.bf (.len) false [.var 0]) (.bf (.len) false [.var 1])) [.ret (.con (.bl false))] [], .ret (.bf (.all) false [.lc false (.call f [.ix (.var 0) (.var 2), .ix (.var 1) (.var 2)]) (.var 2) [2] (.range) [.bf (.len) false [.var 1]] none])] [], .ifs (.cmp (.is) (.var 1) (.con (.non))) [.ret (.cmp (.is) (.var 0) (.con (.non)))] [], .ifs (.cmp (.ne) (.bf (.isinst [4]) false [.var 1]) (.bf (.isinst [4]) false [.var 0])) [.ret (.con (.bl false))] [], .ifs (.bf (.isinst [1]) false [.var 1]) [.ret (.and (.bf (.isinst [1]) false [.var 0]) (.cmp (.eq) (.var 0) (.var 1)))] [], .ret (.and (.bf (.isinst [0]) false [.var 0]) (.cmp (.eq) (.var 0) (.var 1)))]
def drawD : Df := { slots := 1, params := 1, body := drawB, keep := true }
def nextD : Df := { slots := 4, params := 2, body := nextB, keep := true }
def sameD (f : Nat) : Df := { slots := 3, params := 2, body := sameB f, keep := false, alone := true }
/-- what the cell of a draw holds -/
def DrawC (c : Cell) : Prop := ∃ (xs : List Int) (p r s : Int), c = .lst [.d (.lst (xs.map .int)), .d (.int p), .d (.int r), .d (.int s)] ∧ 0 ≤ p
theorem draw_run {G : Gm} {k f : Nat} (h : G.defs f = some drawD) (ns : List Int) (hl : ns.length ≤ 16777216) (S : Sto) : ∃ c, run G (k + 1) f [.d (.scr ns)] S = .ok (.p S.length) (S ++ [c]) ∧ DrawC c := by
  refine ⟨.lst [.d (.lst (ns.map .int)), .d (.int 0), .d (.int 0), .d (.int 17)], ?_, ns, 0, 0, 17, rfl, by decide⟩
  rw [run_keep h rfl rfl]
  simp [drawD, drawB, bList, seqOf, hl]
theorem next_run {G : Gm} {k f : Nat} (h : G.defs f = some nextD) {m : Int} (h0 : 0 < m) (h1 : m < 1073741824) {S : Sto} {n : Nat} {c : Cell} (hc : S[n]? = some c) (hd : DrawC c) :
    ∃ v c', run G (k + 1) f [.p n, .d (.int m)] S = .ok (.d (.int v)) (S.set n c') ∧ DrawC c' ∧ 0 ≤ v ∧ v < m := by
  obtain ⟨xs, p, r, s, rfl, hp⟩ := hd
  have hn : n < S.length := (List.getElem?_eq_some_iff.mp hc).1
  have hset : ∀ c : Cell, (S.set n c)[n]? = some c := fun c => by rw [List.getElem?_set_self hn]
  rw [run_keep h rfl rfl]
  have fin : ∀ (v : Int) (c' : Cell), DrawC c' → outK nextD.keep S (exs G (run G k) nextD.body ([Vl.p n, .d (.int m)].map some ++ List.replicate (nextD.slots - nextD.params) none) S) = .ok (.d (.int (v % m))) (S.set n c') →
      ∃ v c', outK nextD.keep S (exs G (run G k) nextD.body ([Vl.p n, .d (.int m)].map some ++ List.replicate (nextD.slots - nextD.params) none) S) = .ok (.d (.int v)) (S.set n c') ∧ DrawC c' ∧ 0 ≤ v ∧ v < m :=
    fun v c' d e => ⟨_, c', e, d, Int.emod_nonneg _ (by omega), Int.emod_lt_of_pos _ h0⟩
  by_cases hr : 0 < r
  · refine fin r (.lst [.d (.lst (xs.map .int)), .d (.int p), .d (.int (r / m)), .d (.int s)]) ⟨xs, p, r / m, s, rfl, hp⟩ ?_
    simp [nextD, nextB, hc, atI, hr, h0, h1, setItem]
  · by_cases hq : p < xs.length
    · have hx : p.toNat < xs.length := by omega
      by_cases hb : 1000000000000000000 ≤ (if xs[p.toNat] < 0 then -xs[p.toNat] else xs[p.toNat])
      · refine fin (if xs[p.toNat] < 0 then -xs[p.toNat] else xs[p.toNat]) (.lst [.d (.lst (xs.map .int)), .d (.int (p + 1)), .d (.int ((if xs[p.toNat] < 0 then -xs[p.toNat] else xs[p.toNat]) / m)), .d (.int s)]) ⟨xs, p + 1, _, s, rfl, by omega⟩ ?_
        simp [nextD, nextB, hc, atI, hp, hx, hr, hq, h0, h1, setItem, hset, cPow, hb]
      · refine fin (((s * 48271 + (if xs[p.toNat] < 0 then -xs[p.toNat] else xs[p.toNat]) + 11) % 2147483647) * 69621 % 2147483629 / 7) (.lst [.d (.lst (xs.map .int)), .d (.int (p + 1)), .d (.int r), .d (.int ((s * 48271 + (if xs[p.toNat] < 0 then -xs[p.toNat] else xs[p.toNat]) + 11) % 2147483647))]) ⟨xs, p + 1, r, _, rfl, by omega⟩ ?_
        simp [nextD, nextB, hc, atI, hp, hx, hr, hq, h0, h1, setItem, hset, cMul, cPow, hb]
    · refine fin (((s * 48271 + 12345) % 2147483647) * 69621 % 2147483629 / 7) (.lst [.d (.lst (xs.map .int)), .d (.int p), .d (.int r), .d (.int ((s * 48271 + 12345) % 2147483647))]) ⟨xs, p, r, _, rfl, by omega⟩ ?_
      simp [nextD, nextB, hc, atI, hr, hq, h0, h1, setItem, hset, cMul, cPow]
/-! ### _law_same -/
mutual
theorem beq_refl : ∀ x : D, D.beq x x = true
  | .non => rfl
  | .bl a => by simp [D.beq]
  | .int a => by simp [D.beq]
  | .str a => by simp [D.beq]
  | .fn a => by simp [D.beq]
  | .tup a => by simp [D.beq, beqs_refl a]
  | .lst a => by simp [D.beq, beqs_refl a]
  | .scr a => by simp [D.beq]
  | .dct t a b => by simp [D.beq, beqs_refl a, beqs_refl b]
  | .ins c n a => by simp [D.beq, beqs_refl a]
  | .wd a b => by simp [D.beq, beqs_refl b]
theorem beqs_refl : ∀ x : List D, D.beqs x x = true
  | [] => rfl
  | x :: xs => by simp [D.beqs, beq_refl x, beqs_refl xs]
end
@[simp] theorem eqv_refl (x : D) : eqv x x = true := beq_refl _
mutual
/-- plain data that a law compares: no deeper than n, no list too long -/
def okS : Nat → D → Bool
  | _, .non => true
  | _, .bl _ => true
  | _, .int _ => true
  | _, .str _ => true
  | n, .tup xs => decide (xs.length ≤ 16777216) && (match n with | 0 => false | n + 1 => okSs n xs)
  | n, .lst xs => decide (xs.length ≤ 16777216) && (match n with | 0 => false | n + 1 => okSs n xs)
  | _, _ => false
def okSs : Nat → List D → Bool
  | _, [] => true
  | n, x :: xs => okS n x && okSs n xs
end
theorem okSs_all {n : Nat} : ∀ {xs : List D}, okSs n xs = true → ∀ x ∈ xs, okS n x = true
  | [], _, _, h => nomatch h
  | y :: ys, h, x, hx => by
    simp only [okSs, Bool.and_eq_true] at h
    rcases List.mem_cons.mp hx with rfl | hx
    · exact h.1
    · exact okSs_all h.2 x hx
theorem okSs_of {n : Nat} : ∀ {xs : List D}, (∀ x ∈ xs, okS n x = true) → okSs n xs = true
  | [], _ => rfl
  | y :: ys, h => by
    simp only [okSs, Bool.and_eq_true]
    exact ⟨h y (List.mem_cons_self ..), okSs_of fun x hx => h x (List.mem_cons_of_mem _ hx)⟩
/-- a comprehension whose turns leave the cells alone -/
theorem turns_map {f : Env → Sto → Res (Option Vl)} {t : Tg} {ρ : Env} {S : Sto} (g : Vl → Vl) : ∀ {xs acc : List Vl}, (∀ v ∈ xs, ∃ ρ', bindT t v ρ = some ρ' ∧ f ρ' S = .ok (some (g v)) S) → acc.length + xs.length ≤ 16777216 → turns f t ρ xs acc S = .ok (acc ++ xs.map g) S
  | [], acc, _, _ => by simp [turns]
  | v :: xs, acc, h, hl => by
    obtain ⟨ρ', h1, h2⟩ := h v (List.mem_cons_self ..)
    have hl' : acc.length + 1 + xs.length ≤ 16777216 := by simp only [List.length_cons] at hl; omega
    have : acc.length < 16777216 := by omega
    simp only [turns, h1, h2, most, this, decide_true, if_true]
    rw [turns_map g (acc := acc ++ [g v]) (fun w hw => h w (List.mem_cons_of_mem _ hw)) (by simp; omega)]
    simp
/-- over a range -/
theorem turns_rng {f : Env → Sto → Res (Option Vl)} {i : Nat} {ρ : Env} {S : Sto} {n : Nat} (g : Nat → Vl) (hn : n ≤ 16777216) (h : ∀ j, j < n → f (ρ.set i (some (.d (.int (j : Int))))) S = .ok (some (g j)) S) :
    turns f (.var i) ρ ((List.range n).map fun (j : Nat) => .d (.int (j : Int))) [] S = .ok ((List.range n).map g) S := by
  rw [turns_map (fun v => match v with | .d (.int j) => g j.toNat | v => v) (fun v hv => ?_) (by simpa using hn)]
  · simp
  · obtain ⟨j, hj, rfl⟩ := List.mem_map.mp hv
    exact ⟨_, rfl, by simpa using h j (List.mem_range.mp hj)⟩
@[simp] theorem intL_map {τ : Type} (f : τ → Int) (xs : List τ) : intL (xs.map fun x => .int (f x)) = some (xs.map f) := by
  induction xs with
  | nil => rfl
  | cons a ns ih => simp [intL, ih]
@[simp] theorem boolL_map {τ : Type} (f : τ → Bool) (xs : List τ) : boolL (xs.map fun x => .bl (f x)) = some (xs.map f) := by
  induction xs with
  | nil => rfl
  | cons a ns ih => simp [boolL, ih]
@[simp] theorem textL_map {τ : Type} (f : τ → Tx) (xs : List τ) : textL (xs.map fun x => .str (f x)) = some (xs.map f) := by
  induction xs with
  | nil => rfl
  | cons a ns ih => simp [textL, ih]
theorem same0 {G : Gm} {f : Nat} (h : G.defs f = some (sameD f)) (d : D) (hd : okS 0 d = true) (k : Nat) (S : Sto) : run G (k + 1) f [.d d, .d d] S = .ok (.d (.bl true)) S := by
    rw [run_alone h rfl rfl rfl]
    cases d <;> simp [okS] at hd <;> simp [sameD, sameB]
theorem same1 {G : Gm} {f : Nat} (h : G.defs f = some (sameD f)) (xs : List D) (hl : xs.length ≤ 16777216) (k : Nat) (S : Sto) (call : ∀ (i : Nat) (hi : i < xs.length), run G (k + 1) f [.d xs[i], .d xs[i]] [] = .ok (.d (.bl true)) []) : run G (k + 2) f [.d (.lst xs), .d (.lst xs)] S = .ok (.d (.bl true)) S := by
  rw [run_alone h rfl rfl rfl]
  simp [sameD, sameB, wk_rngN (n := xs.length) (by omega)]
  rw [turns_rng (n := xs.length) (fun _ => .d (.bl true)) hl fun j hj => by simp [hj, call]]
  simp [hl]
theorem same2 {G : Gm} {f : Nat} (h : G.defs f = some (sameD f)) (xs : List D) (hl : xs.length ≤ 16777216) (k : Nat) (S : Sto) (call : ∀ (i : Nat) (hi : i < xs.length), run G (k + 1) f [.d xs[i], .d xs[i]] [] = .ok (.d (.bl true)) []) : run G (k + 2) f [.d (.tup xs), .d (.tup xs)] S = .ok (.d (.bl true)) S := by
  rw [run_alone h rfl rfl rfl]
  simp [sameD, sameB, wk_rngN (n := xs.length) (by omega)]
  rw [turns_rng (n := xs.length) (fun _ => .d (.bl true)) hl fun j hj => by simp [hj, call]]
  simp [hl]
theorem same_run {G : Gm} {f : Nat} (h : G.defs f = some (sameD f)) : ∀ (n : Nat) (d : D), okS n d = true → ∀ k, n ≤ k → ∀ S, run G (k + 1) f [.d d, .d d] S = .ok (.d (.bl true)) S := by
  intro n
  induction n with
  | zero => exact fun d hd k _ S => same0 h d hd k S
  | succ n ih =>
    intro d hd k hk S
    cases k with
    | zero => omega
    | succ k =>
      cases d with
      | tup xs =>
        simp only [okS, Bool.and_eq_true, decide_eq_true_eq] at hd
        exact same2 h xs hd.1 k S fun i hi => ih _ (okSs_all hd.2 _ (List.getElem_mem hi)) k (by omega) []
      | lst xs =>
        simp only [okS, Bool.and_eq_true, decide_eq_true_eq] at hd
        exact same1 h xs hd.1 k S fun i hi => ih _ (okSs_all hd.2 _ (List.getElem_mem hi)) k (by omega) []
      | _ => exact ih _ (by simpa [okS] using hd) (k + 1) (by omega) S
end Z
end

section
set_option maxHeartbeats 1000000
set_option maxRecDepth 10000
/-! Z21: texts. -/
namespace Z
open PySem L2
def joinTx (sep : Tx) : List Tx → Tx
  | [] => []
  | [x] => x
  | x :: y :: r => x ++ sep ++ joinTx sep (y :: r)
theorem un_join (sep : Tx) : ∀ ts : List Tx, un (Txt.join (mk sep) (ts.map mk)) = joinTx sep ts := by
  intro ts
  show un (Builtin.Str.glued (mk sep) (ts.map mk)) = _
  rw [StrLaws.glued_eq_join]
  induction ts with
  | nil => rfl
  | cons x r ih =>
    cases r with
    | nil => simp [un, mk, PySem.Str.join, joinTx]
    | cons y r =>
      show (mk x ++ mk sep ++ PySem.Str.join (mk sep) ((y :: r).map mk)).cps.toList = x ++ sep ++ joinTx sep (y :: r)
      rw [← ih]
      simp [Str.cps_append, mk, un]
theorem joinTx_nil : ∀ ts : List Tx, joinTx [] ts = ts.flatten
  | [] => rfl
  | [x] => by simp [joinTx]
  | x :: y :: r => by simp [joinTx, joinTx_nil (y :: r)]
theorem mk_len (s : Tx) : (mk s).length = s.length := rfl
theorem mk_cps (s : Tx) : (mk s).cps.toList = s := rfl
theorem sub_one (s : Tx) (c i : Nat) : Builtin.Str.subAt (mk s) (mk [c]) i = true ↔ s[i]? = some c := by
  rw [StrLaws.subAt_eq]
  exact StrLaws.take1_drop
/-- how often a character stands in a text -/
theorem count_one (s : Tx) (c : Nat) : Txt.count (mk s) (mk [c]) = (s.count c : Int) := by
  show ((Builtin.Str.occurrences (mk s) (mk [c]) 0 (mk s).length ((mk s).length + 1)).length : Int) = _
  rw [StrLaws.occ_eq]
  have key : ∀ (n a : Nat) (st : Array Nat × Nat), st.1.size ≤ a → st.2 ≤ a → a + n = s.length + 1 →
      (forIn (m := Id) (List.range' a n) st (StrLaws.occBody (mk s) (mk [c]) (mk s).length ((mk s).length + 1))).run.1.size = st.1.size + (s.drop a).count c := by
    intro n
    induction n with
    | zero =>
      intro a st h1 h2 h3
      simp [List.drop_eq_nil_of_le (show s.length ≤ a by omega)]
    | succ n ih =>
      intro a st h1 h2 h3
      rw [List.range'_succ, List.forIn_cons]
      by_cases hs : s[a]? = some c
      · have hl : a < s.length := (List.getElem?_eq_some_iff.mp hs).1
        have hc : ((st.fst.size < (mk s).length + 1 ∧ st.snd ≤ a) ∧ a + (mk [c]).length ≤ (mk s).length) ∧ Builtin.Str.subAt (mk s) (mk [c]) a = true := ⟨⟨⟨by rw [mk_len]; omega, h2⟩, by rw [mk_len, mk_len]; simp; omega⟩, (sub_one s c a).mpr hs⟩
        have e : StrLaws.occBody (mk s) (mk [c]) (mk s).length ((mk s).length + 1) a st = pure (ForInStep.yield (st.fst.push a, a + (mk [c]).length)) := by unfold StrLaws.occBody; rw [if_pos hc]
        rw [e]
        simp only [pure_bind]
        rw [ih (a + 1) _ (by simp; omega) (by rw [mk_len]; simp) (by omega)]
        rw [List.drop_eq_getElem_cons hl]
        have : s[a] = c := by rw [List.getElem?_eq_getElem hl] at hs; exact Option.some.inj hs
        simp [this]
        omega
      · have e : StrLaws.occBody (mk s) (mk [c]) (mk s).length ((mk s).length + 1) a st = pure (ForInStep.yield (st.fst, st.snd)) := by
          unfold StrLaws.occBody; rw [if_neg fun h => hs ((sub_one s c a).mp h.2)]
        rw [e]
        simp only [pure_bind]
        rw [ih (a + 1) _ (by simp; omega) (by simp; omega) (by omega)]
        by_cases hl : a < s.length
        · rw [List.drop_eq_getElem_cons hl]
          have : s[a] ≠ c := fun h => hs (by rw [List.getElem?_eq_getElem hl, h])
          rw [List.count_cons_of_ne this]
        · rw [List.drop_eq_nil_of_le (by omega), List.drop_eq_nil_of_le (by omega)]
  have := key (s.length + 1) 0 (#[], 0) (Nat.le_refl _) (Nat.le_refl _) (by omega)
  rw [mk_len] at this ⊢
  simp only [Array.length_toList, Nat.sub_zero]
  rw [this]
  simp
/-- where a character stands last -/
def lastIx (s : Tx) (c : Nat) : Option Nat := (List.range s.length).foldl (fun l i => if s[i]? = some c then some i else l) none
theorem forIn_fold {β : Type} (f : Nat → β → β) (g : Nat → β → Id (ForInStep β)) (h : ∀ i b, g i b = pure (ForInStep.yield (f i b))) : ∀ (l : List Nat) (b : β), (forIn (m := Id) l b g).run = l.foldl (fun b i => f i b) b
  | [], b => rfl
  | i :: l, b => by
    rw [List.forIn_cons, h, List.foldl_cons]
    exact forIn_fold f g h l (f i b)
theorem foldl_ext {β : Type} {f g : β → Nat → β} : ∀ (l : List Nat) (b : β), (∀ i ∈ l, ∀ b, f b i = g b i) → l.foldl f b = l.foldl g b
  | [], b, _ => rfl
  | i :: l, b, h => by
    rw [List.foldl_cons, List.foldl_cons, h i (List.mem_cons_self ..)]
    exact foldl_ext l _ fun j hj => h j (List.mem_cons_of_mem _ hj)
theorem last_one (s : Tx) (c : Nat) : Builtin.Str.lastOccurrence (mk s) (mk [c]) 0 (mk s).length = lastIx s c := by
  have e : Builtin.Str.lastOccurrence (mk s) (mk [c]) 0 (mk s).length = (List.range (s.length + 1)).foldl (fun l i => if (i + 1 ≤ s.length ∧ s[i]? = some c) then some i else l) none := by
    unfold Builtin.Str.lastOccurrence
    simp [List.range_eq_range', mk_len, sub_one]
    exact forIn_fold (fun i l => if i + 1 ≤ List.length s ∧ s[i]? = some c then some i else l) _ (fun i b => by split <;> rfl) _ _
  rw [e, List.range_succ, List.foldl_append]
  unfold lastIx
  simp
  exact foldl_ext _ _ fun i hi b => by
    have : i + 1 ≤ s.length := by have := List.mem_range.mp hi; omega
    simp [this]
theorem rfind_one (s : Tx) (c : Nat) : Txt.rfind (mk s) (mk [c]) = match lastIx s c with | some i => (i : Int) | none => -1 := by
  show (match Builtin.Str.lastOccurrence (mk s) (mk [c]) 0 (mk s).length with | some i => (i : Int) | none => -1) = _
  rw [last_one]
@[simp] theorem rfind_nil (c : Nat) : Txt.rfind (mk []) (mk [c]) = -1 := by
  rw [rfind_one]; rfl
theorem rfind_snoc (s : Tx) (d c : Nat) : Txt.rfind (mk (s ++ [d])) (mk [c]) = if d = c then (s.length : Int) else Txt.rfind (mk s) (mk [c]) := by
  rw [rfind_one, rfind_one]
  have e : lastIx (s ++ [d]) c = if d = c then some s.length else lastIx s c := by
    unfold lastIx
    rw [List.length_append, List.length_singleton, List.range_succ, List.foldl_append]
    simp only [List.foldl_cons, List.foldl_nil]
    rw [List.getElem?_append_right (Nat.le_refl _)]
    simp only [Nat.sub_self, List.getElem?_cons_zero, Option.some.injEq]
    split
    · rfl
    · exact foldl_ext _ _ fun i hi b => by rw [List.getElem?_append_left (List.mem_range.mp hi)]
  rw [e]
  by_cases h : d = c
  · rw [if_pos h, if_pos h]
  · rw [if_neg h, if_neg h]
end Z
end

section
set_option maxHeartbeats 1000000
set_option maxRecDepth 10000
/-! Z22: loops. -/
namespace Z
open PySem L2
/-- a comprehension that may change the cells: what stays true of them, and of each item made -/
theorem turns_inv {f : Env → Sto → Res (Option Vl)} {t : Tg} {ρ : Env} (I : Sto → Prop) (P : Vl → Prop) : ∀ {xs acc : List Vl} {S : Sto}, (∀ v ∈ xs, ∀ S, I S → ∃ ρ' y S', bindT t v ρ = some ρ' ∧ f ρ' S = .ok (some y) S' ∧ I S' ∧ P y) → I S → acc.length + xs.length ≤ 16777216 →
    ∃ ys S', turns f t ρ xs acc S = .ok (acc ++ ys) S' ∧ I S' ∧ ys.length = xs.length ∧ ∀ y ∈ ys, P y
  | [], acc, S, _, hI, _ => ⟨[], S, by simp [turns], hI, rfl, fun _ h => nomatch h⟩
  | v :: xs, acc, S, h, hI, hl => by
    obtain ⟨ρ', y, S1, h1, h2, h3, h4⟩ := h v (List.mem_cons_self ..) S hI
    have hl' : acc.length + 1 + xs.length ≤ 16777216 := by simp only [List.length_cons] at hl; omega
    have hz : acc.length < 16777216 := by omega
    obtain ⟨ys, S', e, i, l, p⟩ := turns_inv I P (xs := xs) (acc := acc ++ [y]) (S := S1) (fun w hw => h w (List.mem_cons_of_mem _ hw)) h3 (by simp; omega)
    refine ⟨y :: ys, S', ?_, i, by simp [l], fun z hz => ?_⟩
    · simp only [turns, h1, h2, most, hz, decide_true, if_true]
      rw [e]; simp
    · rcases List.mem_cons.mp hz with rfl | hz
      · exact h4
      · exact p z hz
/-- the same, for all environments of a kind at once -/
theorem turns_all {f : Env → Sto → Res (Option Vl)} {t : Tg} (R : Env → Prop) (I : Sto → Prop) (P : Vl → Prop) : ∀ {xs : List Vl} (acc : List Vl) {S : Sto}, (∀ v ∈ xs, ∀ S, I S → ∃ y S', I S' ∧ P y ∧ ∀ ρ, R ρ → ∃ ρ', bindT t v ρ = some ρ' ∧ f ρ' S = .ok (some y) S') → I S → acc.length + xs.length ≤ 16777216 →
    ∃ ys S', I S' ∧ ys.length = xs.length ∧ (∀ y ∈ ys, P y) ∧ ∀ ρ, R ρ → turns f t ρ xs acc S = .ok (acc ++ ys) S'
  | [], acc, S, _, hI, _ => ⟨[], S, hI, rfl, (fun _ h => nomatch h), fun ρ _ => by simp [turns]⟩
  | v :: xs, acc, S, h, hI, hl => by
    obtain ⟨y, S1, h3, h4, h5⟩ := h v (List.mem_cons_self ..) S hI
    have hl' : acc.length + 1 + xs.length ≤ 16777216 := by simp only [List.length_cons] at hl; omega
    have hz : acc.length < 16777216 := by omega
    obtain ⟨ys, S', i, l, p, e⟩ := turns_all R I P (xs := xs) (acc ++ [y]) (S := S1) (fun w hw => h w (List.mem_cons_of_mem _ hw)) h3 (by simp; omega)
    refine ⟨y :: ys, S', i, by simp [l], fun z hz => ?_, fun ρ hR => ?_⟩
    · rcases List.mem_cons.mp hz with rfl | hz
      · exact h4
      · exact p z hz
    · obtain ⟨ρ', h1, h2⟩ := h5 ρ hR
      simp only [turns, h1, h2, most, hz, decide_true, if_true]
      rw [e ρ hR]; simp
theorem turns_ds {f : Env → Sto → Res (Option Vl)} {i : Nat} {ρ : Env} {S : Sto} (g : D → D) : ∀ {ds : List D} (acc : List Vl), (∀ d ∈ ds, f (ρ.set i (some (.d d))) S = .ok (some (.d (g d))) S) → acc.length + ds.length ≤ 16777216 → turns f (.var i) ρ (ds.map .d) acc S = .ok (acc ++ ds.map fun d => .d (g d)) S
  | [], acc, _, _ => by simp [turns]
  | d :: ds, acc, h, hl => by
    have hl' : acc.length + 1 + ds.length ≤ 16777216 := by simp only [List.length_cons] at hl; omega
    have hz : acc.length < 16777216 := by omega
    have ih := turns_ds g (ds := ds) (acc ++ [.d (g d)]) (fun e he => h e (List.mem_cons_of_mem _ he)) (by simp; omega)
    rw [List.map_cons]
    unfold turns
    simp only [bindT_var, h d (List.mem_cons_self ..), most, hz, decide_true, if_true]
    rw [ih]
    simp
/-- texts made -/
theorem all_str {ys : List Vl} {p : Tx → Prop} : (∀ y ∈ ys, ∃ t : Tx, y = .d (.str t) ∧ p t) → ∃ ts : List Tx, ys = ts.map (fun t => .d (.str t)) ∧ ∀ t ∈ ts, p t := by
  induction ys with
  | nil => exact fun _ => ⟨[], rfl, fun _ h => nomatch h⟩
  | cons y ys ih =>
    intro h
    obtain ⟨t, e, hp⟩ := h y (List.mem_cons_self ..)
    obtain ⟨ts, e2, hp2⟩ := ih fun z hz => h z (List.mem_cons_of_mem _ hz)
    exact ⟨t :: ts, by rw [e, e2]; rfl, fun z hz => by
      rcases List.mem_cons.mp hz with rfl | hz
      · exact hp
      · exact hp2 z hz⟩
theorem all_int {ys : List Vl} {p : Int → Prop} : (∀ y ∈ ys, ∃ t : Int, y = .d (.int t) ∧ p t) → ∃ ts : List Int, ys = ts.map (fun t => .d (.int t)) ∧ ∀ t ∈ ts, p t := by
  induction ys with
  | nil => exact fun _ => ⟨[], rfl, fun _ h => nomatch h⟩
  | cons y ys ih =>
    intro h
    obtain ⟨t, e, hp⟩ := h y (List.mem_cons_self ..)
    obtain ⟨ts, e2, hp2⟩ := ih fun z hz => h z (List.mem_cons_of_mem _ hz)
    exact ⟨t :: ts, by rw [e, e2]; rfl, fun z hz => by
      rcases List.mem_cons.mp hz with rfl | hz
      · exact hp
      · exact hp2 z hz⟩
theorem all_d {ys : List Vl} {p : D → Prop} : (∀ y ∈ ys, ∃ t : D, y = .d t ∧ p t) → ∃ ts : List D, ys = ts.map .d ∧ ∀ t ∈ ts, p t := by
  induction ys with
  | nil => exact fun _ => ⟨[], rfl, fun _ h => nomatch h⟩
  | cons y ys ih =>
    intro h
    obtain ⟨t, e, hp⟩ := h y (List.mem_cons_self ..)
    obtain ⟨ts, e2, hp2⟩ := ih fun z hz => h z (List.mem_cons_of_mem _ hz)
    exact ⟨t :: ts, by rw [e, e2]; rfl, fun z hz => by
      rcases List.mem_cons.mp hz with rfl | hz
      · exact hp
      · exact hp2 z hz⟩
theorem exs_cat {G : Gm} {rc : Rc} (b : List St) : ∀ (a : List St) {ρ : Env} {S : Sto}, exs G rc (a ++ b) ρ S = (exs G rc a ρ S).seq (exs G rc b)
  | [], ρ, S => rfl
  | s :: a, ρ, S => by
    show (ex G rc s ρ S).seq (fun ρ S => exs G rc (a ++ b) ρ S) = ((ex G rc s ρ S).seq fun ρ S => exs G rc a ρ S).seq (exs G rc b)
    cases ex G rc s ρ S with
    | nx ρ' S' => exact exs_cat b a
    | _ => rfl
theorem exs_split {G : Gm} {rc : Rc} {ρ : Env} {S : Sto} (n : Nat) (b : List St) : exs G rc b ρ S = (exs G rc (b.take n) ρ S).seq (exs G rc (b.drop n)) := by
  have h := exs_cat (G := G) (rc := rc) (b.drop n) (b.take n) (ρ := ρ) (S := S)
  rw [List.take_append_drop] at h
  exact h
/-- a for, turn by turn -/
def forNx (b : Env → Sto → RS) (t : Tg) (vs : List Vl) : RS → RS
  | .nx ρ S => fors b t vs ρ S
  | .ct ρ S => fors b t vs ρ S
  | .bk ρ S => .nx ρ S
  | r => r
section
variable {b : Env → Sto → RS} {t : Tg} {v w : Vl} {vs : List Vl} {ρ : Env} {S : Sto} {i : Nat}
theorem forNx_nx : forNx b t vs (.nx ρ S) = fors b t vs ρ S := (rfl)
theorem forNx_ct : forNx b t vs (.ct ρ S) = fors b t vs ρ S := (rfl)
theorem forNx_bk : forNx b t vs (.bk ρ S) = .nx ρ S := (rfl)
theorem forNx_rt : forNx b t vs (.rt w S) = .rt w S := (rfl)
theorem fors_none : fors b t [] ρ S = .nx ρ S := (rfl)
theorem fors_var : fors b (.var i) (v :: vs) ρ S = forNx b (.var i) vs (b (ρ.set i (some v)) S) := by
  show (match b (ρ.set i (some v)) S with
    | .nx ρ S => fors b (.var i) vs ρ S
    | .ct ρ S => fors b (.var i) vs ρ S
    | .bk ρ S => .nx ρ S
    | r => r) = _
  cases b (ρ.set i (some v)) S <;> rfl
end
/-- a for that goes to its end, by what is walked so far -/
theorem fors_pre {b : Env → Sto → RS} {t : Tg} {xs : List Vl} (I : List Vl → Env → Sto → Prop)
    (h : ∀ pre v post, xs = pre ++ v :: post → ∀ ρ S, I pre ρ S → ∃ ρ1 ρ2 S2, bindT t v ρ = some ρ1 ∧ (b ρ1 S = .nx ρ2 S2 ∨ b ρ1 S = .ct ρ2 S2) ∧ I (pre ++ [v]) ρ2 S2) {ρ : Env} {S : Sto} (h0 : I [] ρ S) : ∃ ρ' S', fors b t xs ρ S = .nx ρ' S' ∧ I xs ρ' S' := by
  have key : ∀ (post pre : List Vl) (ρ : Env) (S : Sto), xs = pre ++ post → I pre ρ S → ∃ ρ' S', fors b t post ρ S = .nx ρ' S' ∧ I xs ρ' S' := by
    intro post
    induction post with
    | nil =>
      intro pre ρ S e hI
      rw [List.append_nil] at e
      subst e
      exact ⟨ρ, S, rfl, hI⟩
    | cons v post ih =>
      intro pre ρ S e hI
      obtain ⟨ρ1, ρ2, S2, h1, h2, h3⟩ := h pre v post e ρ S hI
      obtain ⟨ρ', S', h4, h5⟩ := ih (pre ++ [v]) ρ2 S2 (by rw [e]; simp) h3
      refine ⟨ρ', S', ?_, h5⟩
      unfold fors
      rw [h1]
      rcases h2 with h2 | h2 <;> (simp only [h2]; exact h4)
  exact key xs [] ρ S rfl h0
/-- a for, by what is to come; it may end early -/
theorem fors_rest {b : Env → Sto → RS} {t : Tg} (I : List Vl → Env → Sto → Prop) (R : RS → Prop)
    (h : ∀ v vs ρ S, I (v :: vs) ρ S → ∃ ρ1, bindT t v ρ = some ρ1 ∧ ((∃ ρ2 S2, (b ρ1 S = .nx ρ2 S2 ∨ b ρ1 S = .ct ρ2 S2) ∧ I vs ρ2 S2) ∨ (∃ ρ2 S2, b ρ1 S = .bk ρ2 S2 ∧ R (.nx ρ2 S2)) ∨ (∃ w S2, b ρ1 S = .rt w S2 ∧ R (.rt w S2))))
    (hn : ∀ ρ S, I [] ρ S → R (.nx ρ S)) : ∀ {xs : List Vl} {ρ : Env} {S : Sto}, I xs ρ S → R (fors b t xs ρ S)
  | [], ρ, S, hI => hn ρ S hI
  | v :: vs, ρ, S, hI => by
    obtain ⟨ρ1, h1, h2⟩ := h v vs ρ S hI
    unfold fors
    rw [h1]
    rcases h2 with ⟨ρ2, S2, h2 | h2, h3⟩ | ⟨ρ2, S2, h2, h3⟩ | ⟨w, S2, h2, h3⟩
    · simp only [h2]; exact fors_rest I R h hn h3
    · simp only [h2]; exact fors_rest I R h hn h3
    · simp only [h2]; exact h3
    · simp only [h2]; exact h3
/-- a for over a range, by the index; it may end early -/
theorem fors_range {b : Env → Sto → RS} {i n : Nat} (I : Nat → Env → Sto → Prop) (R : RS → Prop)
    (h : ∀ j ρ S, j < n → I j ρ S → ((∃ ρ2 S2, (b (ρ.set i (some (.d (.int (j : Int))))) S = .nx ρ2 S2 ∨ b (ρ.set i (some (.d (.int (j : Int))))) S = .ct ρ2 S2) ∧ I (j + 1) ρ2 S2) ∨
      (∃ ρ2 S2, b (ρ.set i (some (.d (.int (j : Int))))) S = .bk ρ2 S2 ∧ R (.nx ρ2 S2)) ∨ (∃ w S2, b (ρ.set i (some (.d (.int (j : Int))))) S = .rt w S2 ∧ R (.rt w S2))))
    (hn : ∀ ρ S, I n ρ S → R (.nx ρ S)) {ρ : Env} {S : Sto} (h0 : I 0 ρ S) : R (fors b (.var i) ((List.range n).map fun (j : Nat) => .d (.int (j : Int))) ρ S) := by
  refine fors_rest (fun xs ρ S => ∃ j, j ≤ n ∧ xs = ((List.range n).drop j).map (fun (j : Nat) => Vl.d (.int (j : Int))) ∧ I j ρ S) R (fun v vs ρ S ⟨j, hj, e, hI⟩ => ?_) (fun ρ S ⟨j, hj, e, hI⟩ => ?_) ⟨0, Nat.zero_le _, by simp, h0⟩
  · have hlt : j < n := by
      by_cases hlt : j < n
      · exact hlt
      · rw [List.drop_eq_nil_of_le (by simp; omega)] at e
        cases e
    have hl : j < (List.range n).length := by simpa using hlt
    rw [List.drop_eq_getElem_cons hl, List.map_cons] at e
    injection e with e1 e2
    rw [List.getElem_range] at e1
    subst e1
    refine ⟨_, rfl, ?_⟩
    rcases h j ρ S hlt hI with ⟨ρ2, S2, hb, hI2⟩ | h2 | h2
    · exact .inl ⟨ρ2, S2, hb, j + 1, hlt, e2, hI2⟩
    · exact .inr (.inl h2)
    · exact .inr (.inr h2)
  · have : j = n := by
      by_cases hlt : j < n
      · have hl : j < (List.range n).length := by simpa using hlt
        rw [List.drop_eq_getElem_cons hl] at e
        cases e
      · omega
    subst this
    exact hn ρ S hI
/-- a while, by a measure -/
theorem whl_rest {c : Env → Sto → Res Bool} {b : Env → Sto → RS} (I : Nat → Env → Sto → Prop) (R : RS → Prop)
    (h : ∀ m ρ S, I m ρ S → (c ρ S = .ok false S ∧ R (.nx ρ S)) ∨ (c ρ S = .ok true S ∧ ((∃ m' ρ2 S2, m' < m ∧ (b ρ S = .nx ρ2 S2 ∨ b ρ S = .ct ρ2 S2) ∧ I m' ρ2 S2) ∨ (∃ ρ2 S2, b ρ S = .bk ρ2 S2 ∧ R (.nx ρ2 S2)) ∨ (∃ w S2, b ρ S = .rt w S2 ∧ R (.rt w S2))))) :
    ∀ {n m : Nat} {ρ : Env} {S : Sto}, m < n → I m ρ S → R (whl c b n ρ S)
  | 0, m, ρ, S, hm, _ => absurd hm (Nat.not_lt_zero _)
  | n + 1, m, ρ, S, hm, hI => by
    unfold whl
    rcases h m ρ S hI with ⟨h1, h2⟩ | ⟨h1, h2⟩
    · rw [h1]; exact h2
    · rw [h1]
      simp only [thn_ok, if_true]
      rcases h2 with ⟨m', ρ2, S2, hlt, h2 | h2, h3⟩ | ⟨ρ2, S2, h2, h3⟩ | ⟨w, S2, h2, h3⟩
      · simp only [h2]; exact whl_rest I R h (by omega) h3
      · simp only [h2]; exact whl_rest I R h (by omega) h3
      · simp only [h2]; exact h3
      · simp only [h2]; exact h3
/-! ### small facts -/
@[simp] theorem pures_comp {τ : Type} (f : τ → D) (ds : List τ) : pures (ds.map (Vl.d ∘ f)) = some (ds.map f) := pures_mapf f ds
@[simp] theorem textL_str (ts : List Tx) : textL (ts.map .str) = some ts := by
  have := textL_map (fun t => t) ts
  simpa using this
@[simp] theorem intL_int (ts : List Int) : intL (ts.map .int) = some ts := by
  have := intL_map (fun t => t) ts
  simpa using this
@[simp] theorem boolL_bl (ts : List Bool) : boolL (ts.map .bl) = some ts := by
  have := boolL_map (fun t => t) ts
  simpa using this
@[simp] theorem textL_nil : textL [] = some [] := (rfl)
@[simp] theorem textL_cons (t : Tx) (ds : List D) : textL (.str t :: ds) = (textL ds).map (t :: ·) := (rfl)
@[simp] theorem intL_nil : intL [] = some [] := (rfl)
@[simp] theorem intL_cons (t : Int) (ds : List D) : intL (.int t :: ds) = (intL ds).map (t :: ·) := (rfl)
@[simp] theorem boolL_nil : boolL [] = some [] := (rfl)
@[simp] theorem boolL_cons (t : Bool) (ds : List D) : boolL (.bl t :: ds) = (boolL ds).map (t :: ·) := (rfl)
theorem join_lst {sep : Tx} {ts : List Tx} {ds : List D} {S : Sto} (h : textL ds = some ts) (hl : (ts.map List.length).sum + ts.length * sep.length ≤ 16777216) : mJoin (.d (.str sep)) (.d (.lst ds)) S = .ok (.d (.str (joinTx sep ts))) S := by
  simp [mJoin, h, hl, un_join]
@[simp] theorem join_map {sep : Tx} {ts : List Tx} {S : Sto} (hl : (ts.map List.length).sum + ts.length * sep.length ≤ 16777216) : mJoin (.d (.str sep)) (.d (.lst (ts.map .str))) S = .ok (.d (.str (joinTx sep ts))) S := join_lst (textL_str ts) hl

@[simp] theorem eqv_int (i j : Int) : eqv (.int i) (.int j) = decide (i = j) := (rfl)
@[simp] theorem eqv_str (i j : Tx) : eqv (.str i) (.str j) = decide (i = j) := (rfl)
@[simp] theorem eqv_bl (i j : Bool) : eqv (.bl i) (.bl j) = decide (i = j) := by cases i <;> cases j <;> rfl
@[simp] theorem eqv_non_int (j : Int) : eqv .non (.int j) = false := (rfl)
@[simp] theorem eqv_int_non (j : Int) : eqv (.int j) .non = false := (rfl)
@[simp] theorem eqv_str_int (i : Tx) (j : Int) : eqv (.str i) (.int j) = false := (rfl)
@[simp] theorem eqv_int_str (i : Int) (j : Tx) : eqv (.int i) (.str j) = false := (rfl)
@[simp] theorem eqv_str_non (i : Tx) : eqv (.str i) .non = false := (rfl)
@[simp] theorem eqv_non_str (i : Tx) : eqv .non (.str i) = false := (rfl)
theorem sIx_none (n d : Nat) : HT.sIx n d none = d := (rfl)
@[simp] theorem cut_to {α : Type} (xs : List α) (o : Nat) : cut xs none (some (o : Int)) = xs.take o := by
  unfold cut
  rw [HT.sIx_nat, HT.sIx_none, List.drop_zero, Nat.sub_zero]
  by_cases h : o ≤ xs.length
  · rw [Nat.min_eq_left h]
  · rw [Nat.min_eq_right (by omega), List.take_of_length_le (Nat.le_refl _), List.take_of_length_le (by omega)]
@[simp] theorem cut_from {α : Type} (xs : List α) (o : Nat) : cut xs (some (o : Int)) none = xs.drop o := by
  unfold cut
  rw [HT.sIx_nat, HT.sIx_none]
  by_cases h : o ≤ xs.length
  · rw [Nat.min_eq_left h, List.take_of_length_le (by simp)]
  · rw [Nat.min_eq_right (by omega), List.drop_of_length_le (Nat.le_refl _), List.drop_of_length_le (by omega), List.take_nil]
@[simp] theorem cut_both {α : Type} (xs : List α) (a b : Nat) : cut xs (some (a : Int)) (some (b : Int)) = (xs.drop a).take (b - a) := by
  unfold cut
  rw [HT.sIx_nat, HT.sIx_nat]
  by_cases h : a ≤ xs.length
  · rw [Nat.min_eq_left h]
    by_cases h2 : b ≤ xs.length
    · rw [Nat.min_eq_left h2]
    · rw [Nat.min_eq_right (show xs.length ≤ b by omega), List.take_of_length_le (by simp), List.take_of_length_le (by simp; omega)]
  · rw [Nat.min_eq_right (show xs.length ≤ a by omega), List.drop_of_length_le (Nat.le_refl _), List.drop_of_length_le (by omega)]
    simp
/-! ### the order of data -/
theorem ltDt_cons {x y : D} {xs ys : List D} (ha : alikeD x y = true) (hx : isData 64 x = true) (hy : isData 64 y = true) : ltDt (.tup (x :: xs)) (.tup (y :: ys)) = if eqv x y then ltDt (.tup xs) (.tup ys) else ltDt x y := by
  unfold ltDt
  simp only [toPy, toPys]
  rw [PySem.W.dataLt_tuple, PySem.W.dataLt_tuple, PySem.W.dataLt_cons ha, eqv_py 64 64 x y hx hy]
theorem ltDt_nil : ltDt (.tup []) (.tup []) = false := by
  unfold ltDt
  simp only [toPy, toPys]
  rw [PySem.W.dataLt_tuple]
  exact PySem.W.dataLt_ints [] []
@[simp] theorem ltDt_int (i j : Int) : ltDt (.int i) (.int j) = decide (i < j) := PySem.W.dataLt_int i j
@[simp] theorem ltDt_str (i j : Tx) : ltDt (.str i) (.str j) = ltTx i j := PySem.W.dataLt_str _ _
@[simp] theorem alike_int (i j : Int) : alikeD (.int i) (.int j) = true := by simp [alikeD, toPy, PySem.W.alike]
@[simp] theorem alike_str (i j : Tx) : alikeD (.str i) (.str j) = true := by simp [alikeD, toPy, PySem.W.alike]
theorem alike_tup {x y : D} {xs ys : List D} (h : alikeD x y = true) (h2 : alikeD (.tup xs) (.tup ys) = true) : alikeD (.tup (x :: xs)) (.tup (y :: ys)) = true := by
  unfold alikeD at *
  simp only [toPy, toPys, PySem.W.alike, PySem.W.alikeAll] at *
  rw [h, h2]; rfl
theorem alike_tup0 {ys : List D} : alikeD (.tup []) (.tup ys) = true := by
  unfold alikeD
  simp [toPy, toPys, PySem.W.alike, PySem.W.alikeAll]
theorem eqv_tup_cons (x y : D) (xs ys : List D) : eqv (.tup (x :: xs)) (.tup (y :: ys)) = (eqv x y && eqv (.tup xs) (.tup ys)) := by
  simp [eqv, nz, nzs, D.beq, D.beqs]
theorem eqv_tup_nil : eqv (.tup []) (.tup []) = true := (rfl)
end Z
end

section
set_option maxHeartbeats 2000000
set_option maxRecDepth 10000
/-! V1: values, expressions: what they come to. -/
namespace Z
namespace VD
def b426 : List Z.St := [.ifs (.cmp (.is) (.var 0) (.con (.non))) [.ret (.tup [.con (.int 0), .con (.int 0), .con (.str [])])] [], .ifs (.bf (.isinst [1]) false [.var 0]) [.ret (.tup [.con (.int 2), .con (.int 0), .var 0])] [], .ret (.tup [.con (.int 1), .var 0, .con (.str [])])]
def d426 : Df := { slots := 1, params := 1, body := b426, keep := false, alone := true, init := false, kw := false, kws := [] }
def b428 : List Z.St := [.ifs (.chain (.le) (.le) (.neg (.glob 139)) (.var 0) (.glob 139)) [.ret (.var 0)] [], .ret (.con (.non))]
def d428 : Df := { slots := 1, params := 1, body := b428, keep := false, alone := true, init := false, kw := false, kws := [] }
def b429 : List Z.St := [.ifs (.bf (.isinst [0]) false [.var 0]) [.ret (.cmp (.ne) (.var 0) (.con (.int 0)))] [], .ret (.con (.non))]
def d429 : Df := { slots := 1, params := 1, body := b429, keep := false, alone := true, init := false, kw := false, kws := [] }
def b430 : List Z.St := [.ret (.and (.bf (.isinst [0]) false [.var 0]) (.cmp (.ne) (.var 0) (.con (.int 0))))]
def d430 : Df := { slots := 1, params := 1, body := b430, keep := false, alone := true, init := false, kw := false, kws := [] }
def b431 : List Z.St := [.ifs (.cmp (.is) (.var 0) (.con (.non))) [.ret (.con (.non))] [], .ret (.ite (.var 0) (.con (.int 1)) (.con (.int 0)))]
def d431 : Df := { slots := 1, params := 1, body := b431, keep := false, alone := true, init := false, kw := false, kws := [] }
def b432 : List Z.St := [.ifs (.or (.cmp (.is) (.var 0) (.con (.bl false))) (.cmp (.is) (.var 1) (.con (.bl false)))) [.ret (.con (.bl false))] [], .ifs (.or (.cmp (.is) (.var 0) (.con (.non))) (.cmp (.is) (.var 1) (.con (.non)))) [.ret (.con (.non))] [], .ret (.con (.bl true))]
def d432 : Df := { slots := 2, params := 2, body := b432, keep := false, alone := true, init := false, kw := false, kws := [] }
def b433 : List Z.St := [.ifs (.or (.cmp (.is) (.var 0) (.con (.bl true))) (.cmp (.is) (.var 1) (.con (.bl true)))) [.ret (.con (.bl true))] [], .ifs (.or (.cmp (.is) (.var 0) (.con (.non))) (.cmp (.is) (.var 1) (.con (.non)))) [.ret (.con (.non))] [], .ret (.con (.bl false))]
def d433 : Df := { slots := 2, params := 2, body := b433, keep := false, alone := true, init := false, kw := false, kws := [] }
def b434 : List Z.St := [.ret (.ite (.bf (.isinst [0]) false [.var 0]) (.call 428 [.neg (.var 0)]) (.con (.non)))]
def d434 : Df := { slots := 1, params := 1, body := b434, keep := false, alone := true, init := false, kw := false, kws := [] }
def b435 : List Z.St := [.asg (.var 1) (.call 429 [.var 0]), .ret (.ite (.cmp (.is) (.var 1) (.con (.non))) (.con (.non)) (.call 431 [.not (.var 1)]))]
def d435 : Df := { slots := 2, params := 1, body := b435, keep := false, alone := true, init := false, kw := false, kws := [] }
def b436 : List Z.St := [.ret (.ite (.cmp (.is) (.var 0) (.con (.non))) (.con (.int 1)) (.con (.int 0)))]
def d436 : Df := { slots := 1, params := 1, body := b436, keep := false, alone := true, init := false, kw := false, kws := [] }
def b437 : List Z.St := [.ret (.ite (.bf (.isinst [1]) false [.var 0]) (.bf (.len) false [.var 0]) (.con (.non)))]
def d437 : Df := { slots := 1, params := 1, body := b437, keep := false, alone := true, init := false, kw := false, kws := [] }
def b438 : List Z.St := [.ret (.call 428 [.op (.add) (.var 0) (.var 1)])]
def d438 : Df := { slots := 2, params := 2, body := b438, keep := false, alone := true, init := false, kw := false, kws := [] }
def b439 : List Z.St := [.ret (.call 428 [.op (.sub) (.var 0) (.var 1)])]
def d439 : Df := { slots := 2, params := 2, body := b439, keep := false, alone := true, init := false, kw := false, kws := [] }
def b440 : List Z.St := [.ret (.call 428 [.op (.mul) (.var 0) (.var 1)])]
def d440 : Df := { slots := 2, params := 2, body := b440, keep := false, alone := true, init := false, kw := false, kws := [] }
def b441 : List Z.St := [.ret (.ite (.cmp (.ge) (.var 1) (.con (.int 1))) (.call 428 [.op (.fdiv) (.var 0) (.var 1)]) (.con (.non)))]
def d441 : Df := { slots := 2, params := 2, body := b441, keep := false, alone := true, init := false, kw := false, kws := [] }
def b442 : List Z.St := [.ret (.ite (.cmp (.ge) (.var 1) (.con (.int 1))) (.call 428 [.op (.mod) (.var 0) (.var 1)]) (.con (.non)))]
def d442 : Df := { slots := 2, params := 2, body := b442, keep := false, alone := true, init := false, kw := false, kws := [] }
def b443 : List Z.St := [.ifs (.or (.cmp (.is) (.var 0) (.con (.non))) (.cmp (.is) (.var 1) (.con (.non)))) [.ret (.con (.non))] [], .ret (.ite (.cmp (.lt) (.call 426 [.var 0]) (.call 426 [.var 1])) (.con (.int 1)) (.con (.int 0)))]
def d443 : Df := { slots := 2, params := 2, body := b443, keep := false, alone := true, init := false, kw := false, kws := [] }
def b444 : List Z.St := [.ifs (.or (.cmp (.is) (.var 0) (.con (.non))) (.cmp (.is) (.var 1) (.con (.non)))) [.ret (.con (.non))] [], .ret (.ite (.cmp (.eq) (.call 426 [.var 0]) (.call 426 [.var 1])) (.con (.int 1)) (.con (.int 0)))]
def d444 : Df := { slots := 2, params := 2, body := b444, keep := false, alone := true, init := false, kw := false, kws := [] }
def b445 : List Z.St := [.ret (.call 431 [.call 432 [.call 429 [.var 0], .call 429 [.var 1]]])]
def d445 : Df := { slots := 2, params := 2, body := b445, keep := false, alone := true, init := false, kw := false, kws := [] }
def b446 : List Z.St := [.ret (.call 431 [.call 433 [.call 429 [.var 0], .call 429 [.var 1]]])]
def d446 : Df := { slots := 2, params := 2, body := b446, keep := false, alone := true, init := false, kw := false, kws := [] }
def b447 : List Z.St := [.ifs (.and (.bf (.isinst [1]) false [.var 0]) (.bf (.isinst [1]) false [.var 1])) [.ret (.ite (.bm (.startswith) (.var 0) [.var 1]) (.con (.int 1)) (.con (.int 0)))] [], .ret (.con (.non))]
def d447 : Df := { slots := 2, params := 2, body := b447, keep := false, alone := true, init := false, kw := false, kws := [] }
def b448 : List Z.St := [.ifs (.cmp (.mem) (.var 0) (.glob 141)) [.ifs (.and (.bf (.isinst [0]) false [.var 1]) (.bf (.isinst [0]) false [.var 2])) [.asg (.var 3) (.ix (.glob 141) (.var 0)), .ret (.callv 3 [.var 1, .var 2])] [], .ret (.con (.non))] [], .asg (.var 3) (.ix (.glob 142) (.var 0)), .ret (.callv 3 [.var 1, .var 2])]
def d448 : Df := { slots := 4, params := 3, body := b448, keep := false, alone := true, init := false, kw := false, kws := [] }
def b449 : List Z.St := [.asg (.var 2) (.ix (.var 0) (.con (.int 0))), .ifs (.cmp (.eq) (.var 2) (.con (.str [99, 111, 108, 117, 109, 110]))) [.ret (.ix (.var 1) (.ix (.var 0) (.con (.int 1))))] [], .ifs (.cmp (.eq) (.var 2) (.con (.str [99, 111, 110, 115, 116, 97, 110, 116]))) [.ret (.ix (.var 0) (.con (.int 1)))] [], .ifs (.cmp (.eq) (.var 2) (.con (.str [99, 104, 111, 111, 115, 101]))) [.ifs (.call 430 [.call 449 [.ix (.var 0) (.con (.int 1)), .var 1]]) [.ret (.call 449 [.ix (.var 0) (.con (.int 2)), .var 1])] [], .ret (.call 449 [.ix (.var 0) (.con (.int 3)), .var 1])] [], .asg (.var 3) (.call 449 [.ix (.var 0) (.con (.int 1)), .var 1]), .ifs (.cmp (.mem) (.var 2) (.glob 140)) [.asg (.var 4) (.ix (.glob 140) (.var 2)), .ret (.callv 4 [.var 3])] [], .ret (.call 448 [.var 2, .var 3, .call 449 [.ix (.var 0) (.con (.int 2)), .var 1]])]
def d449 : Df := { slots := 5, params := 2, body := b449, keep := false, alone := true, init := false, kw := false, kws := [] }
def b531 : List Z.St := [.ifs (.cmp (.is) (.var 0) (.con (.non))) [.ret (.tup [.con (.int 0), .con (.int 0), .con (.str [])])] [], .ifs (.bf (.isinst [1]) false [.var 0]) [.ret (.tup [.con (.int 2), .con (.int 0), .var 0])] [], .ret (.tup [.con (.int 1), .var 0, .con (.str [])])]
def d531 : Df := { slots := 1, params := 1, body := b531, keep := false, alone := true, init := false, kw := false, kws := [] }
def b532 : List Z.St := [.ret (.ite (.chain (.le) (.le) (.neg (.op (.pow) (.con (.int 10)) (.con (.int 15)))) (.var 0) (.op (.pow) (.con (.int 10)) (.con (.int 15)))) (.var 0) (.con (.non)))]
def d532 : Df := { slots := 1, params := 1, body := b532, keep := false, alone := true, init := false, kw := false, kws := [] }
def b658 : List Z.St := [.ret (.ite (.or (.cmp (.is) (.var 0) (.con (.non))) (.bf (.isinst [1]) false [.var 0])) (.con (.non)) (.cmp (.ne) (.var 0) (.con (.int 0))))]
def d658 : Df := { slots := 1, params := 1, body := b658, keep := false, alone := true, init := false, kw := false, kws := [] }
def b659 : List Z.St := [.ifs (.or (.not (.bf (.isinst [0]) false [.var 1])) (.not (.bf (.isinst [0]) false [.var 2]))) [.ret (.con (.non))] [], .ifs (.cmp (.eq) (.var 0) (.con (.str [97, 100, 100]))) [.ret (.call 532 [.op (.add) (.var 1) (.var 2)])] [], .ifs (.cmp (.eq) (.var 0) (.con (.str [115, 117, 98, 116, 114, 97, 99, 116]))) [.ret (.call 532 [.op (.sub) (.var 1) (.var 2)])] [], .ifs (.cmp (.eq) (.var 0) (.con (.str [109, 117, 108, 116, 105, 112, 108, 121]))) [.ret (.call 532 [.op (.mul) (.var 1) (.var 2)])] [], .ifs (.cmp (.lt) (.var 2) (.con (.int 1))) [.ret (.con (.non))] [], .asg (.var 3) (.op (.fdiv) (.var 1) (.var 2)), .ret (.ite (.cmp (.eq) (.var 0) (.con (.str [100, 105, 118, 105, 100, 101]))) (.var 3) (.op (.sub) (.var 1) (.op (.mul) (.var 2) (.var 3))))]
def d659 : Df := { slots := 4, params := 3, body := b659, keep := false, alone := true, init := false, kw := false, kws := [] }
def b660 : List Z.St := [.asg (.var 3) (.cmp (.eq) (.var 0) (.con (.str [111, 114]))), .asg (.var 4) (.call 658 [.var 1]), .asg (.var 5) (.call 658 [.var 2]), .ifs (.or (.cmp (.eq) (.var 4) (.var 3)) (.cmp (.eq) (.var 5) (.var 3))) [.ret (.bf (.int) false [.var 3])] [], .ret (.ite (.or (.cmp (.is) (.var 4) (.con (.non))) (.cmp (.is) (.var 5) (.con (.non)))) (.con (.non)) (.bf (.int) false [.not (.var 3)]))]
def d660 : Df := { slots := 6, params := 3, body := b660, keep := false, alone := true, init := false, kw := false, kws := [] }
def b661 : List Z.St := [.ifs (.cmp (.eq) (.var 0) (.con (.str [110, 101, 103, 97, 116, 101]))) [.ret (.call 659 [.con (.str [115, 117, 98, 116, 114, 97, 99, 116]), .con (.int 0), .var 1])] [], .ifs (.cmp (.eq) (.var 0) (.con (.str [109, 105, 115, 115, 105, 110, 103]))) [.ret (.bf (.int) false [.cmp (.is) (.var 1) (.con (.non))])] [], .ifs (.cmp (.eq) (.var 0) (.con (.str [108, 101, 110, 103, 116, 104]))) [.ret (.ite (.bf (.isinst [1]) false [.var 1]) (.bf (.len) false [.var 1]) (.con (.non)))] [], .ret (.ite (.cmp (.is) (.call 658 [.var 1]) (.con (.non))) (.con (.non)) (.bf (.int) false [.not (.call 658 [.var 1])]))]
def d661 : Df := { slots := 2, params := 2, body := b661, keep := false, alone := true, init := false, kw := false, kws := [] }
def b662 : List Z.St := [.asg (.var 2) (.ix (.var 0) (.con (.int 0))), .ifs (.cmp (.eq) (.var 2) (.con (.str [99, 111, 108, 117, 109, 110]))) [.ret (.ix (.var 1) (.ix (.var 0) (.con (.int 1))))] [], .ifs (.cmp (.eq) (.var 2) (.con (.str [99, 111, 110, 115, 116, 97, 110, 116]))) [.ret (.ix (.var 0) (.con (.int 1)))] [], .ifs (.cmp (.eq) (.var 2) (.con (.str [99, 104, 111, 111, 115, 101]))) [.ret (.call 662 [.ite (.cmp (.is) (.call 658 [.call 662 [.ix (.var 0) (.con (.int 1)), .var 1]]) (.con (.bl true))) (.ix (.var 0) (.con (.int 2))) (.ix (.var 0) (.con (.int 3))), .var 1])] [], .asg (.var 3) (.call 662 [.ix (.var 0) (.con (.int 1)), .var 1]), .ifs (.cmp (.eq) (.bf (.len) false [.var 0]) (.con (.int 2))) [.ret (.call 661 [.var 2, .var 3])] [], .asg (.var 4) (.call 662 [.ix (.var 0) (.con (.int 2)), .var 1]), .ifs (.cmp (.mem) (.var 2) (.tup [.con (.str [97, 110, 100]), .con (.str [111, 114])])) [.ret (.call 660 [.var 2, .var 3, .var 4])] [], .ifs (.cmp (.eq) (.var 2) (.con (.str [115, 116, 97, 114, 116, 115]))) [.ifs (.or (.not (.bf (.isinst [1]) false [.var 3])) (.not (.bf (.isinst [1]) false [.var 4]))) [.ret (.con (.non))] [], .ret (.bf (.int) false [.cmp (.eq) (.sl (.var 3) none (some (.bf (.len) false [.var 4]))) (.var 4)])] [], .ifs (.cmp (.nmem) (.var 2) (.tup [.con (.str [108, 101, 115, 115]), .con (.str [101, 113, 117, 97, 108])])) [.ret (.call 659 [.var 2, .var 3, .var 4])] [], .ifs (.or (.cmp (.is) (.var 3) (.con (.non))) (.cmp (.is) (.var 4) (.con (.non)))) [.ret (.con (.non))] [], .ret (.bf (.int) false [.ite (.cmp (.eq) (.var 2) (.con (.str [108, 101, 115, 115]))) (.cmp (.lt) (.call 531 [.var 3]) (.call 531 [.var 4])) (.cmp (.eq) (.call 531 [.var 3]) (.call 531 [.var 4]))])]
def d662 : Df := { slots := 5, params := 2, body := b662, keep := false, alone := true, init := false, kw := false, kws := [] }
def c140 : D := .wd [[110, 101, 103, 97, 116, 101], [110, 111, 116], [109, 105, 115, 115, 105, 110, 103], [108, 101, 110, 103, 116, 104]] [.fn 434, .fn 435, .fn 436, .fn 437]
def c141 : D := .wd [[97, 100, 100], [115, 117, 98, 116, 114, 97, 99, 116], [109, 117, 108, 116, 105, 112, 108, 121], [100, 105, 118, 105, 100, 101], [114, 101, 109, 97, 105, 110, 100, 101, 114]] [.fn 438, .fn 439, .fn 440, .fn 441, .fn 442]
def c142 : D := .wd [[108, 101, 115, 115], [101, 113, 117, 97, 108], [97, 110, 100], [111, 114], [115, 116, 97, 114, 116, 115]] [.fn 443, .fn 444, .fn 445, .fn 446, .fn 447]
end VD
open VD
/-- a value -/
inductive Va where
  | non | int (i : Int) | str (s : Tx)
  deriving Inhabited, DecidableEq
def Va.d : Va → D
  | .non => .non
  | .int i => .int i
  | .str s => .str s
/-- within the bounds -/
def Va.ok : Va → Prop
  | .non => True
  | .int i => -1000000000000000 ≤ i ∧ i ≤ 1000000000000000
  | .str s => s.length ≤ 1000 ∧ (s.all fun c => decide (c < 1114112)) = true
def bd (i : Int) : Va := if -1000000000000000 ≤ i ∧ i ≤ 1000000000000000 then .int i else .non
def tr : Va → Option Bool
  | .int i => some (!decide (i = 0))
  | _ => none
def frm : Option Bool → Va
  | none => .non
  | some b => .int (if b then 1 else 0)
def obD : Option Bool → D
  | none => .non
  | some b => .bl b
def vkey : Va → D
  | .non => .tup [.int 0, .int 0, .str []]
  | .int i => .tup [.int 1, .int i, .str []]
  | .str s => .tup [.int 2, .int 0, .str s]
def andO (a b : Option Bool) : Option Bool := if a = some false ∨ b = some false then some false else if a = none ∨ b = none then none else some true
def orO (a b : Option Bool) : Option Bool := if a = some true ∨ b = some true then some true else if a = none ∨ b = none then none else some false
def b2v (b : Bool) : Va := .int (if b then 1 else 0)
/-- one operand: negate, not, missing, length -/
def ap1 : Nat → Va → Va
  | 0, .int i => bd (-i)
  | 0, _ => .non
  | 1, v => frm ((tr v).map not)
  | 2, v => b2v (decide (v = .non))
  | _, .str s => .int s.length
  | _, _ => .non
/-- two ints: add, subtract, multiply, divide, remainder -/
def apN : Nat → Int → Int → Va
  | 0, i, j => bd (i + j)
  | 1, i, j => bd (i - j)
  | 2, i, j => bd (i * j)
  | 3, i, j => if 1 ≤ j then bd (i / j) else .non
  | _, i, j => if 1 ≤ j then bd (i % j) else .non
def apC (f : D → D → Bool) (a b : Va) : Va := if a = .non ∨ b = .non then .non else b2v (f (vkey a) (vkey b))
def apS : Va → Va → Va
  | .str a, .str b => b2v (decide (a.take b.length = b))
  | _, _ => .non
/-- two operands: the five, less, equal, and, or, starts -/
def ap2 (o : Nat) (a b : Va) : Va :=
  if o < 5 then (match a, b with
    | .int i, .int j => apN o i j
    | _, _ => .non)
  else if o = 5 then apC ltDt a b
  else if o = 6 then apC eqv a b
  else if o = 7 then frm (andO (tr a) (tr b))
  else if o = 8 then frm (orO (tr a) (tr b))
  else apS a b
def nm1 : Nat → Tx
  | 0 => [110, 101, 103, 97, 116, 101]
  | 1 => [110, 111, 116]
  | 2 => [109, 105, 115, 115, 105, 110, 103]
  | _ => [108, 101, 110, 103, 116, 104]
def nm2 : Nat → Tx
  | 0 => [97, 100, 100]
  | 1 => [115, 117, 98, 116, 114, 97, 99, 116]
  | 2 => [109, 117, 108, 116, 105, 112, 108, 121]
  | 3 => [100, 105, 118, 105, 100, 101]
  | 4 => [114, 101, 109, 97, 105, 110, 100, 101, 114]
  | 5 => [108, 101, 115, 115]
  | 6 => [101, 113, 117, 97, 108]
  | 7 => [97, 110, 100]
  | 8 => [111, 114]
  | _ => [115, 116, 97, 114, 116, 115]
/-- an expression of a plan -/
inductive Xp where
  | col (i : Nat) | con (v : Va) | one (o : Nat) (a : Xp) | two (o : Nat) (a b : Xp) | cho (c a b : Xp)
  deriving Inhabited
def Xp.enc : Xp → D
  | .col i => .tup [.str [99, 111, 108, 117, 109, 110], .int (i : Int)]
  | .con v => .tup [.str [99, 111, 110, 115, 116, 97, 110, 116], v.d]
  | .one o a => .tup [.str (nm1 o), a.enc]
  | .two o a b => .tup [.str (nm2 o), a.enc, b.enc]
  | .cho c a b => .tup [.str [99, 104, 111, 111, 115, 101], c.enc, a.enc, b.enc]
def Xp.h : Xp → Nat
  | .col _ => 0
  | .con _ => 0
  | .one _ a => a.h + 1
  | .two _ a b => max a.h b.h + 1
  | .cho c a b => max c.h (max a.h b.h) + 1
/-- over so many columns -/
def Xp.In (w : Nat) : Xp → Prop
  | .col i => i < w
  | .con v => v.ok
  | .one o a => o < 4 ∧ a.In w
  | .two o a b => o < 10 ∧ a.In w ∧ b.In w
  | .cho c a b => c.In w ∧ a.In w ∧ b.In w
def evX (r : List Va) : Xp → Va
  | .col i => (r[i]?).getD .non
  | .con v => v
  | .one o a => ap1 o (evX r a)
  | .two o a b => ap2 o (evX r a) (evX r b)
  | .cho c a b => if tr (evX r c) = some true then evX r a else evX r b
/-! ### what comes is within the bounds -/
theorem bd_ok (i : Int) : (bd i).ok := by
  unfold bd
  split
  · rename_i h; exact h
  · trivial
theorem b2v_ok (b : Bool) : (b2v b).ok := by cases b <;> simp [b2v, Va.ok]
theorem frm_ok (o : Option Bool) : (frm o).ok := by
  cases o with
  | none => trivial
  | some b => exact b2v_ok b
theorem ap1_ok (o : Nat) {v : Va} (h : v.ok) : (ap1 o v).ok := by
  match o, v with
  | 0, .non => trivial
  | 0, .str _ => trivial
  | 0, .int i => exact bd_ok _
  | 1, v => exact frm_ok _
  | 2, v => exact b2v_ok _
  | _ + 3, .str s =>
    have := h.1
    show -1000000000000000 ≤ (s.length : Int) ∧ (s.length : Int) ≤ 1000000000000000
    omega
  | _ + 3, .int _ => trivial
  | _ + 3, .non => trivial
theorem apN_ok (o : Nat) (i j : Int) : (apN o i j).ok := by
  match o with
  | 0 => exact bd_ok _
  | 1 => exact bd_ok _
  | 2 => exact bd_ok _
  | 3 =>
    show (if 1 ≤ j then bd (i / j) else Va.non).ok
    split
    · exact bd_ok _
    · trivial
  | _ + 4 =>
    show (if 1 ≤ j then bd (i % j) else Va.non).ok
    split
    · exact bd_ok _
    · trivial
theorem apC_ok (f : D → D → Bool) (a b : Va) : (apC f a b).ok := by
  unfold apC
  split
  · trivial
  · exact b2v_ok _
theorem ap2_ok (o : Nat) (a b : Va) : (ap2 o a b).ok := by
  unfold ap2
  split
  · split
    · exact apN_ok _ _ _
    · trivial
  · split
    · exact apC_ok _ _ _
    · split
      · exact apC_ok _ _ _
      · split
        · exact frm_ok _
        · split
          · exact frm_ok _
          · unfold apS
            split
            · exact b2v_ok _
            · trivial
theorem evX_ok {r : List Va} (hr : ∀ v ∈ r, v.ok) : ∀ x : Xp, x.In r.length → (evX r x).ok
  | .col i, h => by
    unfold evX
    have h : i < r.length := h
    rw [List.getElem?_eq_getElem h]
    exact hr _ (List.getElem_mem h)
  | .con v, h => h
  | .one o a, h => ap1_ok o (evX_ok hr a h.2)
  | .two o a b, h => ap2_ok o _ _
  | .cho c a b, h => by
    unfold evX
    split
    · exact evX_ok hr a h.2.1
    · exact evX_ok hr b h.2.2
/-! ### the keys of values -/
theorem vkey_data {v : Va} (h : v.ok) : isData 64 (vkey v) = true := by
  cases v with
  | non => rfl
  | int i => rfl
  | str s =>
    have := h.2
    simp only [vkey, isData, isDatas, Bool.and_true, Bool.true_and]
    exact this
theorem vkey_alike (a b : Va) : alikeD (vkey a) (vkey b) = true := by
  have key : ∀ i j k l : Int, ∀ s t : Tx, alikeD (.tup [.int i, .int j, .str s]) (.tup [.int k, .int l, .str t]) = true := fun i j k l s t =>
    alike_tup (alike_int _ _) (alike_tup (alike_int _ _) (alike_tup (alike_str _ _) alike_tup0))
  cases a <;> cases b <;> exact key _ _ _ _ _ _
theorem vkey_ord {a b : Va} (ha : a.ok) (hb : b.ok) : ordOk (vkey a) (vkey b) = true := by
  unfold ordOk
  rw [vkey_data ha, vkey_data hb, vkey_alike]
  cases a <;> rfl
theorem vkey_eq {a b : Va} (ha : a.ok) (hb : b.ok) : eqOk (vkey a) (vkey b) = true := by
  unfold eqOk
  rw [vkey_data ha, vkey_data hb]; simp
theorem vkey_tup (v : Va) : ∃ xs, vkey v = .tup xs := by cases v <;> exact ⟨_, rfl⟩
/-- a program's part -/
structure VG (G : Gm) : Prop where
  g139 : G.con 139 = .int 1000000000000000
  g140 : G.con 140 = c140
  g141 : G.con 141 = c141
  g142 : G.con 142 = c142
  f426 : G.defs 426 = some d426
  f428 : G.defs 428 = some d428
  f429 : G.defs 429 = some d429
  f430 : G.defs 430 = some d430
  f431 : G.defs 431 = some d431
  f432 : G.defs 432 = some d432
  f433 : G.defs 433 = some d433
  f434 : G.defs 434 = some d434
  f435 : G.defs 435 = some d435
  f436 : G.defs 436 = some d436
  f437 : G.defs 437 = some d437
  f438 : G.defs 438 = some d438
  f439 : G.defs 439 = some d439
  f440 : G.defs 440 = some d440
  f441 : G.defs 441 = some d441
  f442 : G.defs 442 = some d442
  f443 : G.defs 443 = some d443
  f444 : G.defs 444 = some d444
  f445 : G.defs 445 = some d445
  f446 : G.defs 446 = some d446
  f447 : G.defs 447 = some d447
  f448 : G.defs 448 = some d448
  f449 : G.defs 449 = some d449
section
variable {G : Gm} {S : Sto} {k : Nat}
theorem vkey_run (f : G.defs 426 = some d426) (v : Va) : run G (k + 1) 426 [.d v.d] S = .ok (.d (vkey v)) S := by
  rw [run_alone (d := d426) f rfl rfl rfl]
  cases v <;> simp [d426, b426, Va.d, vkey]
theorem bd_run (g : VG G) (i : Int) : run G (k + 1) 428 [.d (.int i)] S = .ok (.d (bd i).d) S := by
  rw [run_alone (d := d428) g.f428 rfl rfl rfl]
  have g0 := g.g139
  by_cases h1 : -1000000000000000 ≤ i
  · by_cases h2 : i ≤ 1000000000000000
    · simp [d428, b428, g0, h1, h2, bd, Va.d]
    · simp [d428, b428, g0, h1, h2, bd, Va.d]
  · simp [d428, b428, g0, h1, bd, Va.d]
theorem tr_run (g : VG G) (v : Va) : run G (k + 1) 429 [.d v.d] S = .ok (.d (obD (tr v))) S := by
  rw [run_alone (d := d429) g.f429 rfl rfl rfl]
  cases v <;> simp [d429, b429, Va.d, tr, obD]
theorem isT_run (g : VG G) (v : Va) : run G (k + 1) 430 [.d v.d] S = .ok (.d (.bl (decide (tr v = some true)))) S := by
  rw [run_alone (d := d430) g.f430 rfl rfl rfl]
  cases v <;> simp [d430, b430, Va.d, tr]
theorem frm_run (g : VG G) (o : Option Bool) : run G (k + 1) 431 [.d (obD o)] S = .ok (.d (frm o).d) S := by
  rw [run_alone (d := d431) g.f431 rfl rfl rfl]
  cases o with
  | none => simp [d431, b431, Va.d, frm, obD]
  | some b => cases b <;> simp [d431, b431, Va.d, frm, obD]
theorem and_run (g : VG G) (a b : Option Bool) : run G (k + 1) 432 [.d (obD a), .d (obD b)] S = .ok (.d (obD (andO a b))) S := by
  rw [run_alone (d := d432) g.f432 rfl rfl rfl]
  match a, b with
  | none, none => simp [d432, b432, obD, andO]
  | none, some false => simp [d432, b432, obD, andO]
  | none, some true => simp [d432, b432, obD, andO]
  | some false, none => simp [d432, b432, obD, andO]
  | some false, some false => simp [d432, b432, obD, andO]
  | some false, some true => simp [d432, b432, obD, andO]
  | some true, none => simp [d432, b432, obD, andO]
  | some true, some false => simp [d432, b432, obD, andO]
  | some true, some true => simp [d432, b432, obD, andO]
theorem or_run (g : VG G) (a b : Option Bool) : run G (k + 1) 433 [.d (obD a), .d (obD b)] S = .ok (.d (obD (orO a b))) S := by
  rw [run_alone (d := d433) g.f433 rfl rfl rfl]
  match a, b with
  | none, none => simp [d433, b433, obD, orO]
  | none, some false => simp [d433, b433, obD, orO]
  | none, some true => simp [d433, b433, obD, orO]
  | some false, none => simp [d433, b433, obD, orO]
  | some false, some false => simp [d433, b433, obD, orO]
  | some false, some true => simp [d433, b433, obD, orO]
  | some true, none => simp [d433, b433, obD, orO]
  | some true, some false => simp [d433, b433, obD, orO]
  | some true, some true => simp [d433, b433, obD, orO]
/-- the operations of one operand -/
def fn1 (o : Nat) : Nat := 434 + o
theorem ap1_run (g : VG G) {o : Nat} (ho : o < 4) {v : Va} (hv : v.ok) : run G (k + 2) (fn1 o) [.d v.d] S = .ok (.d (ap1 o v).d) S := by
  match o, ho with
  | 0, _ =>
    show run G (k + 2) 434 _ _ = _
    rw [run_alone (d := d434) g.f434 rfl rfl rfl]
    cases v with
    | int i =>
      have b := bd_run (k := k) (S := []) g (-i)
      simp [d434, b434, Va.d, ap1]
      simp [Va.d] at b
      simp [b]
    | non => simp [d434, b434, Va.d, ap1]
    | str s => simp [d434, b434, Va.d, ap1]
  | 1, _ =>
    show run G (k + 2) 435 _ _ = _
    rw [run_alone (d := d435) g.f435 rfl rfl rfl]
    have t := tr_run (k := k) (S := []) g v
    have u := frm_run (k := k) (S := []) g ((tr v).map not)
    cases v with
    | int i =>
      by_cases hi : i = 0 <;> simp [Va.d, tr, obD, hi] at t u <;> simp [d435, b435, Va.d, t, u, ap1, tr, hi, frm]
    | non => simp [Va.d, tr, obD] at t; simp [d435, b435, Va.d, t, ap1, tr, frm]
    | str s => simp [Va.d, tr, obD] at t; simp [d435, b435, Va.d, t, ap1, tr, frm]
  | 2, _ =>
    show run G (k + 2) 436 _ _ = _
    rw [run_alone (d := d436) g.f436 rfl rfl rfl]
    cases v <;> simp [d436, b436, Va.d, ap1, b2v]
  | 3, _ =>
    show run G (k + 2) 437 _ _ = _
    rw [run_alone (d := d437) g.f437 rfl rfl rfl]
    cases v with
    | str s =>
      have : s.length ≤ 16777216 := by have := hv.1; omega
      simp [d437, b437, Va.d, ap1, this]
    | non => simp [d437, b437, Va.d, ap1]
    | int i => simp [d437, b437, Va.d, ap1]
theorem apN_run (g : VG G) {o : Nat} (ho : o < 5) {i j : Int} (hi : (Va.int i).ok) (hj : (Va.int j).ok) : run G (k + 2) (438 + o) [.d (.int i), .d (.int j)] S = .ok (.d (apN o i j).d) S := by
  have hi1 := hi.1
  have hi2 := hi.2
  have hj1 := hj.1
  have hj2 := hj.2
  match o, ho with
  | 0, _ =>
    show run G (k + 2) 438 _ _ = _
    rw [run_alone (d := d438) g.f438 rfl rfl rfl]
    have b := bd_run (k := k) (S := []) g (i + j)
    simp [d438, b438, b, apN]
  | 1, _ =>
    show run G (k + 2) 439 _ _ = _
    rw [run_alone (d := d439) g.f439 rfl rfl rfl]
    have b := bd_run (k := k) (S := []) g (i - j)
    simp [d439, b439, b, apN]
  | 2, _ =>
    show run G (k + 2) 440 _ _ = _
    rw [run_alone (d := d440) g.f440 rfl rfl rfl]
    have b := bd_run (k := k) (S := []) g (i * j)
    have c : cMul i j = true := by unfold cMul; simp; omega
    simp [d440, b440, b, apN, c]
  | 3, _ =>
    show run G (k + 2) 441 _ _ = _
    rw [run_alone (d := d441) g.f441 rfl rfl rfl]
    have b := bd_run (k := k) (S := []) g (i / j)
    by_cases h : 1 ≤ j
    · have h0 : 0 < j := by omega
      have hb : j < big := Int.lt_trans (show j < 1152921504606846976 by omega) (by decide)
      simp [d441, b441, b, apN, h, h0, hb]
    · simp [d441, b441, apN, h, Va.d]
  | 4, _ =>
    show run G (k + 2) 442 _ _ = _
    rw [run_alone (d := d442) g.f442 rfl rfl rfl]
    have b := bd_run (k := k) (S := []) g (i % j)
    by_cases h : 1 ≤ j
    · have h0 : 0 < j := by omega
      simp [d442, b442, b, apN, h, h0]
    · simp [d442, b442, apN, h, Va.d]
theorem less_run (g : VG G) {a b : Va} (ha : a.ok) (hb : b.ok) : run G (k + 2) 443 [.d a.d, .d b.d] S = .ok (.d (apC ltDt a b).d) S := by
  rw [run_alone (d := d443) g.f443 rfl rfl rfl]
  have ka := vkey_run (k := k) (S := []) g.f426 a
  have kb := vkey_run (k := k) (S := []) g.f426 b
  have o := vkey_ord ha hb
  obtain ⟨xs, ex⟩ := vkey_tup a
  obtain ⟨ys, ey⟩ := vkey_tup b
  rw [ex, ey] at o
  rw [ex] at ka
  rw [ey] at kb
  have hc : ∀ S, cmpop .lt (.d (.tup xs)) (.d (.tup ys)) S = .ok (.d (.bl (ltDt (.tup xs) (.tup ys)))) S := fun S => by rw [lt_tup, o]; rfl
  unfold apC
  rw [ex, ey]
  cases a <;> cases b <;> simp only [Va.d] at ka kb ⊢
  all_goals first
    | (simp [d443, b443]; done)
    | (cases hl : ltDt (.tup xs) (.tup ys) <;> rw [hl] at hc <;> simp [-lt_tup, d443, b443, ka, kb, hc, b2v])
theorem equal_run (g : VG G) {a b : Va} (ha : a.ok) (hb : b.ok) : run G (k + 2) 444 [.d a.d, .d b.d] S = .ok (.d (apC eqv a b).d) S := by
  rw [run_alone (d := d444) g.f444 rfl rfl rfl]
  have ka := vkey_run (k := k) (S := []) g.f426 a
  have kb := vkey_run (k := k) (S := []) g.f426 b
  have o := vkey_eq ha hb
  unfold apC
  generalize vkey a = x at *
  generalize vkey b = y at *
  have hc : ∀ S, cEqv false (.d x) (.d y) S = .ok (.d (.bl (eqv x y))) S := fun S => by rw [eqv_dd, o]; rfl
  cases a <;> cases b <;> simp only [Va.d] at ka kb ⊢
  all_goals first
    | (simp [d444, b444]; done)
    | (cases hl : eqv x y <;> rw [hl] at hc <;> simp [-eqv_dd, d444, b444, ka, kb, hc, b2v])
theorem starts_eq (a b : Tx) : PySem.Txt.startswith (mk a) (mk b) = decide (a.take b.length = b) := by
  unfold PySem.Txt.startswith
  rw [PySem.StrLaws.subAt_eq]
  have h1 : (mk a).cps.toList = a := by simp [mk]
  have h2 : (mk b).cps.toList = b := by simp [mk]
  have h3 : (mk a).length = a.length := by simp [mk, PySem.Str.length]
  have h4 : (mk b).length = b.length := by simp [mk, PySem.Str.length]
  rw [h1, h2, h3, h4, List.drop_zero]
  by_cases h : a.take b.length = b
  · have : b.length ≤ a.length := by
      have := congrArg List.length h
      rw [List.length_take] at this; omega
    simp [h, this]
  · simp [h]
theorem starts_run (g : VG G) (a b : Va) : run G (k + 1) 447 [.d a.d, .d b.d] S = .ok (.d (apS a b).d) S := by
  rw [run_alone (d := d447) g.f447 rfl rfl rfl]
  match a, b with
  | .str a, .str b =>
    have := starts_eq a b
    by_cases h : a.take b.length = b
    · simp [h] at this
      simp [d447, b447, Va.d, apS, b2v, this, h]
    · simp [h] at this
      simp [d447, b447, Va.d, apS, b2v, this, h]
  | .str a, .non => simp [d447, b447, Va.d, apS]
  | .str a, .int _ => simp [d447, b447, Va.d, apS]
  | .non, _ => simp [d447, b447, Va.d, apS]
  | .int _, _ => simp [d447, b447, Va.d, apS]
theorem ap2_int {o : Nat} (h : o < 5) (i j : Int) : ap2 o (.int i) (.int j) = apN o i j := by unfold ap2; rw [if_pos h]
theorem ap2_n1 {o : Nat} (h : o < 5) (b : Va) : ap2 o .non b = .non := by unfold ap2; rw [if_pos h]
theorem ap2_n2 {o : Nat} (h : o < 5) (s : Tx) (b : Va) : ap2 o (.str s) b = .non := by unfold ap2; rw [if_pos h]
theorem ap2_n3 {o : Nat} (h : o < 5) (i : Int) : ap2 o (.int i) .non = .non := by unfold ap2; rw [if_pos h]
theorem ap2_n4 {o : Nat} (h : o < 5) (i : Int) (s : Tx) : ap2 o (.int i) (.str s) = .non := by unfold ap2; rw [if_pos h]
theorem apply_run (g : VG G) {o : Nat} (ho : o < 10) {a b : Va} (ha : a.ok) (hb : b.ok) : run G (k + 3) 448 [.d (.str (nm2 o)), .d a.d, .d b.d] S = .ok (.d (ap2 o a b).d) S := by
  rw [run_alone (d := d448) g.f448 rfl rfl rfl]
  have g1 := g.g141
  have g2 := g.g142
  have cal : ∀ i, i < 10 → G.callable (438 + i) = true := fun i hi => by
    unfold Gm.callable
    match i, hi with
    | 0, _ => rw [show 438 + 0 = 438 from rfl, g.f438]; rfl
    | 1, _ => rw [show 438 + 1 = 439 from rfl, g.f439]; rfl
    | 2, _ => rw [show 438 + 2 = 440 from rfl, g.f440]; rfl
    | 3, _ => rw [show 438 + 3 = 441 from rfl, g.f441]; rfl
    | 4, _ => rw [show 438 + 4 = 442 from rfl, g.f442]; rfl
    | 5, _ => rw [show 438 + 5 = 443 from rfl, g.f443]; rfl
    | 6, _ => rw [show 438 + 6 = 444 from rfl, g.f444]; rfl
    | 7, _ => rw [show 438 + 7 = 445 from rfl, g.f445]; rfl
    | 8, _ => rw [show 438 + 8 = 446 from rfl, g.f446]; rfl
    | 9, _ => rw [show 438 + 9 = 447 from rfl, g.f447]; rfl
  by_cases h5 : o < 5
  · -- a number's
    have cl := cal o ho
    match a, b, ha, hb with
    | .int i, .int j, ha, hb =>
      have r := apN_run (k := k) (S := []) g h5 ha hb
      rw [ap2_int h5]
      generalize (apN o i j).d = w at *
      simp only [Va.d]
      match o, h5 with
      | 0, _ => simp at r cl; simp [d448, b448, g1, c141, nm2, wdFind, cl, r]
      | 1, _ => simp at r cl; simp [d448, b448, g1, c141, nm2, wdFind, cl, r]
      | 2, _ => simp at r cl; simp [d448, b448, g1, c141, nm2, wdFind, cl, r]
      | 3, _ => simp at r cl; simp [d448, b448, g1, c141, nm2, wdFind, cl, r]
      | 4, _ => simp at r cl; simp [d448, b448, g1, c141, nm2, wdFind, cl, r]
    | .non, b, _, _ =>
      rw [ap2_n1 h5]
      match o, h5 with
      | 0, _ => simp [d448, b448, g1, c141, nm2, wdFind, Va.d]
      | 1, _ => simp [d448, b448, g1, c141, nm2, wdFind, Va.d]
      | 2, _ => simp [d448, b448, g1, c141, nm2, wdFind, Va.d]
      | 3, _ => simp [d448, b448, g1, c141, nm2, wdFind, Va.d]
      | 4, _ => simp [d448, b448, g1, c141, nm2, wdFind, Va.d]
    | .str s, b, _, _ =>
      rw [ap2_n2 h5]
      match o, h5 with
      | 0, _ => simp [d448, b448, g1, c141, nm2, wdFind, Va.d]
      | 1, _ => simp [d448, b448, g1, c141, nm2, wdFind, Va.d]
      | 2, _ => simp [d448, b448, g1, c141, nm2, wdFind, Va.d]
      | 3, _ => simp [d448, b448, g1, c141, nm2, wdFind, Va.d]
      | 4, _ => simp [d448, b448, g1, c141, nm2, wdFind, Va.d]
    | .int i, .non, _, _ =>
      rw [ap2_n3 h5]
      match o, h5 with
      | 0, _ => simp [d448, b448, g1, c141, nm2, wdFind, Va.d]
      | 1, _ => simp [d448, b448, g1, c141, nm2, wdFind, Va.d]
      | 2, _ => simp [d448, b448, g1, c141, nm2, wdFind, Va.d]
      | 3, _ => simp [d448, b448, g1, c141, nm2, wdFind, Va.d]
      | 4, _ => simp [d448, b448, g1, c141, nm2, wdFind, Va.d]
    | .int i, .str s, _, _ =>
      rw [ap2_n4 h5]
      match o, h5 with
      | 0, _ => simp [d448, b448, g1, c141, nm2, wdFind, Va.d]
      | 1, _ => simp [d448, b448, g1, c141, nm2, wdFind, Va.d]
      | 2, _ => simp [d448, b448, g1, c141, nm2, wdFind, Va.d]
      | 3, _ => simp [d448, b448, g1, c141, nm2, wdFind, Va.d]
      | 4, _ => simp [d448, b448, g1, c141, nm2, wdFind, Va.d]
  · have cl := cal o ho
    have ta := tr_run (k := k + 1) (S := []) g a
    have tb := tr_run (k := k + 1) (S := []) g b
    match o, h5, ho with
    | 5, _, _ =>
      have r := less_run (k := k) (S := []) g ha hb
      have ap : ap2 5 a b = apC ltDt a b := rfl
      rw [ap]
      generalize a.d = x at *
      generalize b.d = y at *
      simp at cl
      simp [d448, b448, g1, g2, c141, c142, nm2, wdFind, cl, r]
    | 6, _, _ =>
      have r := equal_run (k := k) (S := []) g ha hb
      have ap : ap2 6 a b = apC eqv a b := rfl
      rw [ap]
      generalize a.d = x at *
      generalize b.d = y at *
      simp at cl
      simp [d448, b448, g1, g2, c141, c142, nm2, wdFind, cl, r]
    | 7, _, _ =>
      have r : run G (k + 2) 445 [.d a.d, .d b.d] [] = .ok (.d (frm (andO (tr a) (tr b))).d) [] := by
        rw [run_alone (d := d445) g.f445 rfl rfl rfl]
        have an := and_run (k := k) (S := []) g (tr a) (tr b)
        have fr := frm_run (k := k) (S := []) g (andO (tr a) (tr b))
        have ta := tr_run (k := k) (S := []) g a
        have tb := tr_run (k := k) (S := []) g b
        simp [d445, b445, ta, tb, an, fr]
      have ap : ap2 7 a b = frm (andO (tr a) (tr b)) := rfl
      rw [ap]
      generalize a.d = x at *
      generalize b.d = y at *
      simp at cl
      simp [d448, b448, g1, g2, c141, c142, nm2, wdFind, cl, r]
    | 8, _, _ =>
      have r : run G (k + 2) 446 [.d a.d, .d b.d] [] = .ok (.d (frm (orO (tr a) (tr b))).d) [] := by
        rw [run_alone (d := d446) g.f446 rfl rfl rfl]
        have an := or_run (k := k) (S := []) g (tr a) (tr b)
        have fr := frm_run (k := k) (S := []) g (orO (tr a) (tr b))
        have ta := tr_run (k := k) (S := []) g a
        have tb := tr_run (k := k) (S := []) g b
        simp [d446, b446, ta, tb, an, fr]
      have ap : ap2 8 a b = frm (orO (tr a) (tr b)) := rfl
      rw [ap]
      generalize a.d = x at *
      generalize b.d = y at *
      simp at cl
      simp [d448, b448, g1, g2, c141, c142, nm2, wdFind, cl, r]
    | 9, _, _ =>
      have r := starts_run (k := k + 1) (S := []) g a b
      have ap : ap2 9 a b = apS a b := rfl
      rw [ap]
      generalize a.d = x at *
      generalize b.d = y at *
      simp at cl
      simp [d448, b448, g1, g2, c141, c142, nm2, wdFind, cl, r]
theorem row_at {r : List Va} {i : Nat} (h : i < r.length) (S : Sto) : index (.d (.tup (r.map Va.d))) (.d (.int (i : Int))) S = .ok (.d ((r[i]?).getD .non).d) S := by
  simp [h]
/-- the program's evaluate -/
theorem ev_run (g : VG G) {r : List Va} (hr : ∀ v ∈ r, v.ok) : ∀ (x : Xp) (k : Nat) (S : Sto), x.In r.length → x.h + 5 ≤ k → run G k 449 [.d x.enc, .d (.tup (r.map Va.d))] S = .ok (.d (evX r x).d) S
  | .col i, k, S, h, hk => by
    obtain ⟨k, rfl⟩ : ∃ j, k = j + 1 := ⟨k - 1, by omega⟩
    rw [run_alone (d := d449) g.f449 rfl rfl rfl]
    have h' : i < r.length := h
    simp [d449, b449, Xp.enc, h', evX]
  | .con v, k, S, h, hk => by
    obtain ⟨k, rfl⟩ : ∃ j, k = j + 1 := ⟨k - 1, by omega⟩
    rw [run_alone (d := d449) g.f449 rfl rfl rfl]
    simp [d449, b449, Xp.enc, evX]
  | .one o a, k, S, h, hk => by
    simp only [Xp.h] at hk
    obtain ⟨k, rfl⟩ : ∃ j, k = j + 4 := ⟨k - 4, by omega⟩
    rw [run_alone (d := d449) g.f449 rfl rfl rfl]
    have ia := ev_run g hr a (k + 3) [] h.2 (by omega)
    have ap := ap1_run (k := k + 1) (S := []) g h.1 (evX_ok hr a h.2)
    have g0 := g.g140
    have cal : ∀ i, i < 4 → G.callable (434 + i) = true := fun i hi => by
      unfold Gm.callable
      match i, hi with
      | 0, _ => rw [show 434 + 0 = 434 from rfl, g.f434]; rfl
      | 1, _ => rw [show 434 + 1 = 435 from rfl, g.f435]; rfl
      | 2, _ => rw [show 434 + 2 = 436 from rfl, g.f436]; rfl
      | 3, _ => rw [show 434 + 3 = 437 from rfl, g.f437]; rfl
    have cl := cal o h.1
    have e : evX r (.one o a) = ap1 o (evX r a) := rfl
    rw [e, show (Xp.one o a).enc = .tup [.str (nm1 o), a.enc] from rfl]
    generalize a.enc = A at *
    generalize evX r a = v at *
    have ho := h.1
    generalize v.d = x at *
    match o, ho with
    | 0, _ => simp [fn1] at ap cl; simp [d449, b449, Xp.enc, nm1, ia, g0, c140, wdFind, cl, ap]
    | 1, _ => simp [fn1] at ap cl; simp [d449, b449, Xp.enc, nm1, ia, g0, c140, wdFind, cl, ap]
    | 2, _ => simp [fn1] at ap cl; simp [d449, b449, Xp.enc, nm1, ia, g0, c140, wdFind, cl, ap]
    | 3, _ => simp [fn1] at ap cl; simp [d449, b449, Xp.enc, nm1, ia, g0, c140, wdFind, cl, ap]
  | .two o a b, k, S, h, hk => by
    simp only [Xp.h] at hk
    obtain ⟨k, rfl⟩ : ∃ j, k = j + 4 := ⟨k - 4, by omega⟩
    rw [run_alone (d := d449) g.f449 rfl rfl rfl]
    have ia := ev_run g hr a (k + 3) [] h.2.1 (by omega)
    have ib := ev_run g hr b (k + 3) [] h.2.2 (by omega)
    have ap := apply_run (k := k) (S := []) g h.1 (evX_ok hr a h.2.1) (evX_ok hr b h.2.2)
    have g0 := g.g140
    have e : evX r (.two o a b) = ap2 o (evX r a) (evX r b) := rfl
    rw [e, show (Xp.two o a b).enc = .tup [.str (nm2 o), a.enc, b.enc] from rfl]
    generalize a.enc = A at *
    generalize b.enc = B at *
    have ho := h.1
    generalize ap2 o (evX r a) (evX r b) = w at *
    generalize (evX r a).d = x at *
    generalize (evX r b).d = y at *
    match o, ho with
    | 0, _ => simp [nm2] at ap; simp [d449, b449, Xp.enc, nm2, ia, ib, g0, c140, wdFind, ap]
    | 1, _ => simp [nm2] at ap; simp [d449, b449, Xp.enc, nm2, ia, ib, g0, c140, wdFind, ap]
    | 2, _ => simp [nm2] at ap; simp [d449, b449, Xp.enc, nm2, ia, ib, g0, c140, wdFind, ap]
    | 3, _ => simp [nm2] at ap; simp [d449, b449, Xp.enc, nm2, ia, ib, g0, c140, wdFind, ap]
    | 4, _ => simp [nm2] at ap; simp [d449, b449, Xp.enc, nm2, ia, ib, g0, c140, wdFind, ap]
    | 5, _ => simp [nm2] at ap; simp [d449, b449, Xp.enc, nm2, ia, ib, g0, c140, wdFind, ap]
    | 6, _ => simp [nm2] at ap; simp [d449, b449, Xp.enc, nm2, ia, ib, g0, c140, wdFind, ap]
    | 7, _ => simp [nm2] at ap; simp [d449, b449, Xp.enc, nm2, ia, ib, g0, c140, wdFind, ap]
    | 8, _ => simp [nm2] at ap; simp [d449, b449, Xp.enc, nm2, ia, ib, g0, c140, wdFind, ap]
    | 9, _ => simp [nm2] at ap; simp [d449, b449, Xp.enc, nm2, ia, ib, g0, c140, wdFind, ap]
  | .cho c a b, k, S, h, hk => by
    simp only [Xp.h] at hk
    obtain ⟨k, rfl⟩ : ∃ j, k = j + 4 := ⟨k - 4, by omega⟩
    rw [run_alone (d := d449) g.f449 rfl rfl rfl]
    have ic := ev_run g hr c (k + 3) [] h.1 (by omega)
    have ia := ev_run g hr a (k + 3) [] h.2.1 (by omega)
    have ib := ev_run g hr b (k + 3) [] h.2.2 (by omega)
    have it := isT_run (k := k + 2) (S := []) g (evX r c)
    have e : evX r (.cho c a b) = if tr (evX r c) = some true then evX r a else evX r b := rfl
    rw [e, show (Xp.cho c a b).enc = .tup [.str [99, 104, 111, 111, 115, 101], c.enc, a.enc, b.enc] from rfl]
    generalize a.enc = A at *
    generalize b.enc = B at *
    generalize c.enc = C at *
    by_cases ht : tr (evX r c) = some true
    · simp [ht] at it
      simp [d449, b449, Xp.enc, ic, it, ht, ia]
    · simp [ht] at it
      simp [d449, b449, Xp.enc, ic, it, ht, ib]
end
end Z
end

section
set_option maxHeartbeats 2000000
set_option maxRecDepth 10000
/-! V2: the laws' own: what expressions come to, expressions drawn. -/
namespace Z
open VD
@[simp] theorem eqv_non_bl (b : Bool) : eqv .non (.bl b) = false := (rfl)
@[simp] theorem eqv_bl_non (b : Bool) : eqv (.bl b) .non = false := (rfl)
/-- a law's part -/
structure LG (G : Gm) : Prop where
  f531 : G.defs 531 = some d531
  f532 : G.defs 532 = some d532
  f658 : G.defs 658 = some d658
  f659 : G.defs 659 = some d659
  f660 : G.defs 660 = some d660
  f661 : G.defs 661 = some d661
  f662 : G.defs 662 = some d662
section
variable {G : Gm} {S : Sto} {k : Nat}
theorem lkey_run (g : LG G) (v : Va) : run G (k + 1) 531 [.d v.d] S = .ok (.d (vkey v)) S := by
  rw [run_alone (d := d531) g.f531 rfl rfl rfl]
  cases v <;> simp [d531, b531, Va.d, vkey]
theorem lbd_run (g : LG G) (i : Int) : run G (k + 1) 532 [.d (.int i)] S = .ok (.d (bd i).d) S := by
  rw [run_alone (d := d532) g.f532 rfl rfl rfl]
  have cp : cPow 10 15 = true := by decide
  by_cases h1 : -1000000000000000 ≤ i
  · by_cases h2 : i ≤ 1000000000000000
    · simp [d532, b532, cp, h1, h2, bd, Va.d]
    · simp [d532, b532, cp, h1, h2, bd, Va.d]
  · simp [d532, b532, cp, h1, bd, Va.d]
theorem known_run (g : LG G) (v : Va) : run G (k + 1) 658 [.d v.d] S = .ok (.d (obD (tr v))) S := by
  rw [run_alone (d := d658) g.f658 rfl rfl rfl]
  cases v <;> simp [d658, b658, Va.d, tr, obD]
theorem bd_in {i : Int} (h : -1000000000000000 ≤ i ∧ i ≤ 1000000000000000) : bd i = .int i := by unfold bd; rw [if_pos h]
/-- what the law's arithmetic gives -/
theorem arith_run (g : LG G) {o : Nat} (ho : o < 5) {a b : Va} (ha : a.ok) (hb : b.ok) : run G (k + 2) 659 [.d (.str (nm2 o)), .d a.d, .d b.d] S = .ok (.d (ap2 o a b).d) S := by
  rw [run_alone (d := d659) g.f659 rfl rfl rfl]
  match a, b, ha, hb with
  | .non, b, _, _ => rw [ap2_n1 ho]; simp [d659, b659, Va.d]
  | .str s, b, _, _ => rw [ap2_n2 ho]; simp [d659, b659, Va.d]
  | .int i, .non, _, _ => rw [ap2_n3 ho]; simp [d659, b659, Va.d]
  | .int i, .str s, _, _ => rw [ap2_n4 ho]; simp [d659, b659, Va.d]
  | .int i, .int j, ha, hb =>
    rw [ap2_int ho]
    have hi1 := ha.1
    have hi2 := ha.2
    have hj1 := hb.1
    have hj2 := hb.2
    match o, ho with
    | 0, _ =>
      have b := lbd_run (k := k) (S := []) g (i + j)
      simp [d659, b659, nm2, Va.d, b, apN]
    | 1, _ =>
      have b := lbd_run (k := k) (S := []) g (i - j)
      simp [d659, b659, nm2, Va.d, b, apN]
    | 2, _ =>
      have b := lbd_run (k := k) (S := []) g (i * j)
      have c : cMul i j = true := by unfold cMul; simp; omega
      simp [d659, b659, nm2, Va.d, b, c, apN]
    | 3, _ =>
      by_cases h : 1 ≤ j
      · have h0 : 0 < j := by omega
        have h1 : ¬ j < 1 := by omega
        have hbg : j < big := Int.lt_trans (show j < 1152921504606846976 by omega) (by decide)
        have q1 : i / j ≤ 1000000000000000 := by
          rcases Int.lt_or_le i 0 with z | z
          · have := Int.ediv_neg_of_neg_of_pos z h0; omega
          · have := Int.ediv_le_self j z; omega
        have q2 : -1000000000000000 ≤ i / j := by
          exact (Int.le_ediv_iff_mul_le (a := -1000000000000000) (b := i) h0).mpr (by omega)
        have e : apN 3 i j = .int (i / j) := by
          show (if 1 ≤ j then bd (i / j) else .non) = _
          rw [if_pos h, bd_in ⟨q2, q1⟩]
        rw [e]
        simp [d659, b659, nm2, Va.d, h0, h1, hbg]
      · have h1 : j < 1 := by omega
        have e : apN 3 i j = .non := by
          show (if 1 ≤ j then bd (i / j) else .non) = _
          rw [if_neg h]
        rw [e]
        simp [d659, b659, nm2, Va.d, h1]
    | 4, _ =>
      by_cases h : 1 ≤ j
      · have h0 : 0 < j := by omega
        have h1 : ¬ j < 1 := by omega
        have hbg : j < big := Int.lt_trans (show j < 1152921504606846976 by omega) (by decide)
        have m1 := Int.emod_nonneg i (show j ≠ 0 by omega)
        have m2 := Int.emod_lt_of_pos i h0
        have e : apN 4 i j = .int (i % j) := by
          show (if 1 ≤ j then bd (i % j) else .non) = _
          rw [if_pos h, bd_in ⟨by omega, by omega⟩]
        have em : i - j * (i / j) = i % j := (Int.emod_def i j).symm
        have c : cMul j (i / j) = true := by unfold cMul; simp; omega
        rw [e]
        simp [d659, b659, nm2, Va.d, h0, h1, hbg, c, em]
      · have h1 : j < 1 := by omega
        have e : apN 4 i j = .non := by
          show (if 1 ≤ j then bd (i % j) else .non) = _
          rw [if_neg h]
        rw [e]
        simp [d659, b659, nm2, Va.d, h1]
theorem logic_run (g : LG G) (o : Bool) (a b : Va) : run G (k + 2) 660 [.d (.str (nm2 (if o then 8 else 7))), .d a.d, .d b.d] S = .ok (.d (if o then frm (orO (tr a) (tr b)) else frm (andO (tr a) (tr b))).d) S := by
  rw [run_alone (d := d660) g.f660 rfl rfl rfl]
  have ta := known_run (k := k) (S := []) g a
  have tb := known_run (k := k) (S := []) g b
  generalize a.d = x at *
  generalize b.d = y at *
  generalize tr a = p at *
  generalize tr b = q at *
  have bi : ∀ (b : Bool) (S : Sto), bInt (.d (.bl b)) S = .ok (.d (.int (if b then 1 else 0))) S := fun _ _ => rfl
  match o, p, q with
  | false, none, none => simp [obD] at ta tb; simp [d660, b660, nm2, ta, tb, frm, andO, Va.d]
  | false, none, some false => simp [obD] at ta tb; simp [d660, b660, nm2, ta, tb, frm, andO, Va.d, bi]
  | false, none, some true => simp [obD] at ta tb; simp [d660, b660, nm2, ta, tb, frm, andO, Va.d]
  | false, some false, none => simp [obD] at ta tb; simp [d660, b660, nm2, ta, tb, frm, andO, Va.d, bi]
  | false, some false, some false => simp [obD] at ta tb; simp [d660, b660, nm2, ta, tb, frm, andO, Va.d, bi]
  | false, some false, some true => simp [obD] at ta tb; simp [d660, b660, nm2, ta, tb, frm, andO, Va.d, bi]
  | false, some true, none => simp [obD] at ta tb; simp [d660, b660, nm2, ta, tb, frm, andO, Va.d]
  | false, some true, some false => simp [obD] at ta tb; simp [d660, b660, nm2, ta, tb, frm, andO, Va.d, bi]
  | false, some true, some true => simp [obD] at ta tb; simp [d660, b660, nm2, ta, tb, frm, andO, Va.d, bi]
  | true, none, none => simp [obD] at ta tb; simp [d660, b660, nm2, ta, tb, frm, orO, Va.d]
  | true, none, some false => simp [obD] at ta tb; simp [d660, b660, nm2, ta, tb, frm, orO, Va.d]
  | true, none, some true => simp [obD] at ta tb; simp [d660, b660, nm2, ta, tb, frm, orO, Va.d, bi]
  | true, some false, none => simp [obD] at ta tb; simp [d660, b660, nm2, ta, tb, frm, orO, Va.d]
  | true, some false, some false => simp [obD] at ta tb; simp [d660, b660, nm2, ta, tb, frm, orO, Va.d, bi]
  | true, some false, some true => simp [obD] at ta tb; simp [d660, b660, nm2, ta, tb, frm, orO, Va.d, bi]
  | true, some true, none => simp [obD] at ta tb; simp [d660, b660, nm2, ta, tb, frm, orO, Va.d, bi]
  | true, some true, some false => simp [obD] at ta tb; simp [d660, b660, nm2, ta, tb, frm, orO, Va.d, bi]
  | true, some true, some true => simp [obD] at ta tb; simp [d660, b660, nm2, ta, tb, frm, orO, Va.d, bi]
theorem single_run (g : LG G) {o : Nat} (ho : o < 4) {v : Va} (hv : v.ok) : run G (k + 3) 661 [.d (.str (nm1 o)), .d v.d] S = .ok (.d (ap1 o v).d) S := by
  rw [run_alone (d := d661) g.f661 rfl rfl rfl]
  have bi : ∀ (b : Bool) (S : Sto), bInt (.d (.bl b)) S = .ok (.d (.int (if b then 1 else 0))) S := fun _ _ => rfl
  match o, ho with
  | 0, _ =>
    have ar := arith_run (k := k) (S := []) g (o := 1) (by decide) (a := .int 0) (b := v) (by exact ⟨by decide, by decide⟩) hv
    have e : ap2 1 (.int 0) v = ap1 0 v := by
      cases v with
      | int i => rw [ap2_int (by decide)]; show bd (0 - i) = bd (-i); rw [Int.zero_sub]
      | non => rw [ap2_n3 (by decide)]; rfl
      | str s => rw [ap2_n4 (by decide)]; rfl
    rw [e] at ar
    generalize ap1 0 v = w at *
    generalize v.d = x at *
    simp [nm2, Va.d] at ar
    simp [d661, b661, nm1, ar]
    rfl
  | 1, _ =>
    have t := known_run (k := k + 1) (S := []) g v
    have e : ap1 1 v = frm ((tr v).map not) := rfl
    rw [e]
    generalize tr v = p at *
    generalize v.d = x at *
    match p with
    | none => simp [obD] at t; simp [d661, b661, nm1, t, frm, Va.d]
    | some false => simp [obD] at t; simp [d661, b661, nm1, t, frm, Va.d, bi]
    | some true => simp [obD] at t; simp [d661, b661, nm1, t, frm, Va.d, bi]
  | 2, _ => cases v <;> simp [d661, b661, nm1, Va.d, ap1, b2v, bi]
  | 3, _ =>
    cases v with
    | str s =>
      have : s.length ≤ 16777216 := by have := hv.1; omega
      simp [d661, b661, nm1, Va.d, ap1, this]
    | non => simp [d661, b661, nm1, Va.d, ap1]
    | int i => simp [d661, b661, nm1, Va.d, ap1]
/-- the law's value of an expression -/
theorem due_run (g : LG G) {r : List Va} (hr : ∀ v ∈ r, v.ok) : ∀ (x : Xp) (k : Nat) (S : Sto), x.In r.length → x.h + 5 ≤ k → run G k 662 [.d x.enc, .d (.tup (r.map Va.d))] S = .ok (.d (evX r x).d) S
  | .col i, k, S, h, hk => by
    obtain ⟨k, rfl⟩ : ∃ j, k = j + 1 := ⟨k - 1, by omega⟩
    rw [run_alone (d := d662) g.f662 rfl rfl rfl]
    have h' : i < r.length := h
    simp [d662, b662, Xp.enc, h', evX]
  | .con v, k, S, h, hk => by
    obtain ⟨k, rfl⟩ : ∃ j, k = j + 1 := ⟨k - 1, by omega⟩
    rw [run_alone (d := d662) g.f662 rfl rfl rfl]
    simp [d662, b662, Xp.enc, evX]
  | .one o a, k, S, h, hk => by
    simp only [Xp.h] at hk
    obtain ⟨k, rfl⟩ : ∃ j, k = j + 4 := ⟨k - 4, by omega⟩
    rw [run_alone (d := d662) g.f662 rfl rfl rfl]
    have ia := due_run g hr a (k + 3) [] h.2 (by omega)
    have ap := single_run (k := k) (S := []) g h.1 (evX_ok hr a h.2)
    have e : evX r (.one o a) = ap1 o (evX r a) := rfl
    rw [e, show (Xp.one o a).enc = .tup [.str (nm1 o), a.enc] from rfl]
    generalize a.enc = A at *
    generalize ap1 o (evX r a) = w at *
    generalize (evX r a).d = x at *
    have ho := h.1
    match o, ho with
    | 0, _ => simp [nm1] at ap; simp [d662, b662, nm1, ia, ap]
    | 1, _ => simp [nm1] at ap; simp [d662, b662, nm1, ia, ap]
    | 2, _ => simp [nm1] at ap; simp [d662, b662, nm1, ia, ap]
    | 3, _ => simp [nm1] at ap; simp [d662, b662, nm1, ia, ap]
  | .two o a b, k, S, h, hk => by
    simp only [Xp.h] at hk
    obtain ⟨k, rfl⟩ : ∃ j, k = j + 4 := ⟨k - 4, by omega⟩
    rw [run_alone (d := d662) g.f662 rfl rfl rfl]
    have ia := due_run g hr a (k + 3) [] h.2.1 (by omega)
    have ib := due_run g hr b (k + 3) [] h.2.2 (by omega)
    have hoa := evX_ok hr a h.2.1
    have hob := evX_ok hr b h.2.2
    have e : evX r (.two o a b) = ap2 o (evX r a) (evX r b) := rfl
    rw [e, show (Xp.two o a b).enc = .tup [.str (nm2 o), a.enc, b.enc] from rfl]
    generalize a.enc = A at *
    generalize b.enc = B at *
    have ho := h.1
    generalize evX r a = va at *
    generalize evX r b = vb at *
    have bi : ∀ (b : Bool) (S : Sto), bInt (.d (.bl b)) S = .ok (.d (.int (if b then 1 else 0))) S := fun _ _ => rfl
    by_cases h5 : o < 5
    · have ap := arith_run (k := k + 1) (S := []) g h5 hoa hob
      generalize ap2 o va vb = w at *
      generalize va.d = x at *
      generalize vb.d = y at *
      match o, h5 with
      | 0, _ => simp [nm2] at ap; simp [d662, b662, nm2, ia, ib, memT_flat, ap]
      | 1, _ => simp [nm2] at ap; simp [d662, b662, nm2, ia, ib, memT_flat, ap]
      | 2, _ => simp [nm2] at ap; simp [d662, b662, nm2, ia, ib, memT_flat, ap]
      | 3, _ => simp [nm2] at ap; simp [d662, b662, nm2, ia, ib, memT_flat, ap]
      | 4, _ => simp [nm2] at ap; simp [d662, b662, nm2, ia, ib, memT_flat, ap]
    · match o, h5, ho with
      | 5, _, _ =>
        have e5 : ap2 5 va vb = apC ltDt va vb := rfl
        rw [e5]
        have ka := lkey_run (k := k + 2) (S := []) g va
        have kb := lkey_run (k := k + 2) (S := []) g vb
        have oo := vkey_ord hoa hob
        obtain ⟨xs, ex⟩ := vkey_tup va
        obtain ⟨ys, ey⟩ := vkey_tup vb
        rw [ex, ey] at oo
        rw [ex] at ka
        rw [ey] at kb
        have hc : ∀ S, cmpop .lt (.d (.tup xs)) (.d (.tup ys)) S = .ok (.d (.bl (ltDt (.tup xs) (.tup ys)))) S := fun S => by rw [lt_tup, oo]; rfl
        unfold apC
        rw [ex, ey]
        cases va <;> cases vb <;> simp only [Va.d] at ka kb ia ib ⊢
        all_goals first
          | (simp [d662, b662, nm2, ia, ib, memT_flat]; done)
          | (cases hl : ltDt (.tup xs) (.tup ys) <;> rw [hl] at hc <;> simp [-lt_tup, d662, b662, nm2, ia, ib, memT_flat, ka, kb, hc, b2v, bi])
      | 6, _, _ =>
        have e5 : ap2 6 va vb = apC eqv va vb := rfl
        rw [e5]
        have ka := lkey_run (k := k + 2) (S := []) g va
        have kb := lkey_run (k := k + 2) (S := []) g vb
        have oo := vkey_eq hoa hob
        obtain ⟨xs, ex⟩ := vkey_tup va
        obtain ⟨ys, ey⟩ := vkey_tup vb
        rw [ex, ey] at oo
        rw [ex] at ka
        rw [ey] at kb
        have oo1 : isData 64 (.tup xs) = true := by rw [← ex]; exact vkey_data hoa
        have oo2 : isData 64 (.tup ys) = true := by rw [← ey]; exact vkey_data hob
        unfold apC
        rw [ex, ey]
        cases va <;> cases vb <;> simp only [Va.d] at ka kb ia ib ⊢
        all_goals first
          | (simp [d662, b662, nm2, ia, ib, memT_flat]; done)
          | (cases hl : eqv (.tup xs) (.tup ys) <;> simp [-isData_tup, d662, b662, nm2, ia, ib, memT_flat, ka, kb, oo1, oo2, hl, b2v, bi])
      | 7, _, _ =>
        have ap := logic_run (k := k + 1) (S := []) g false va vb
        have e5 : ap2 7 va vb = frm (andO (tr va) (tr vb)) := rfl
        rw [e5]
        generalize va.d = x at *
        generalize vb.d = y at *
        simp [nm2] at ap
        simp [d662, b662, nm2, ia, ib, memT_flat, ap]
      | 8, _, _ =>
        have ap := logic_run (k := k + 1) (S := []) g true va vb
        have e5 : ap2 8 va vb = frm (orO (tr va) (tr vb)) := rfl
        rw [e5]
        generalize va.d = x at *
        generalize vb.d = y at *
        simp [nm2] at ap
        simp [d662, b662, nm2, ia, ib, memT_flat, ap]
      | 9, _, _ =>
        have e5 : ap2 9 va vb = apS va vb := rfl
        rw [e5]
        match va, vb with
        | .str s, .str u =>
          simp only [Va.d] at ia ib
          have z1 : s.length ≤ 16777216 := by have := hoa.1; omega
          have z2 : u.length ≤ 16777216 := by have := hob.1; omega
          have sl : ∀ S, slice (.d (.str s)) none (some (u.length : Int)) S = .ok (.d (.str (s.take u.length))) S := fun S => by
            simp [slice, most, z1]
          by_cases hs : s.take u.length = u
          · simp [hs] at sl
            simp [d662, b662, nm2, ia, ib, memT_flat, z2, sl, apS, b2v, hs, bi, Va.d]
          · simp [d662, b662, nm2, ia, ib, memT_flat, z2, sl, apS, b2v, hs, bi, Va.d]
        | .str s, .non => simp only [Va.d] at ia ib; simp [d662, b662, nm2, ia, ib, memT_flat, apS, Va.d]
        | .str s, .int _ => simp only [Va.d] at ia ib; simp [d662, b662, nm2, ia, ib, memT_flat, apS, Va.d]
        | .non, vb => simp only [Va.d] at ia; simp [d662, b662, nm2, ia, ib, memT_flat, apS, Va.d]
        | .int _, vb => simp only [Va.d] at ia; simp [d662, b662, nm2, ia, ib, memT_flat, apS, Va.d]
  | .cho c a b, k, S, h, hk => by
    simp only [Xp.h] at hk
    obtain ⟨k, rfl⟩ : ∃ j, k = j + 4 := ⟨k - 4, by omega⟩
    rw [run_alone (d := d662) g.f662 rfl rfl rfl]
    have ic := due_run g hr c (k + 3) [] h.1 (by omega)
    have ia := due_run g hr a (k + 3) [] h.2.1 (by omega)
    have ib := due_run g hr b (k + 3) [] h.2.2 (by omega)
    have it := known_run (k := k + 2) (S := []) g (evX r c)
    have e : evX r (.cho c a b) = if tr (evX r c) = some true then evX r a else evX r b := rfl
    rw [e, show (Xp.cho c a b).enc = .tup [.str [99, 104, 111, 111, 115, 101], c.enc, a.enc, b.enc] from rfl]
    generalize a.enc = A at *
    generalize b.enc = B at *
    generalize c.enc = C at *
    generalize (evX r c).d = x at *
    generalize tr (evX r c) = p at *
    match p with
    | none => simp [obD] at it; simp [d662, b662, ic, it, ib]
    | some false => simp [obD] at it; simp [d662, b662, ic, it, ib]
    | some true => simp [obD] at it; simp [d662, b662, ic, it, ia]
end
end Z
end

section
set_option maxHeartbeats 2000000
set_option maxRecDepth 10000
/-! V3: expressions drawn, shown. -/
namespace Z
open VD
def cellB : List St := [.asg (.var 1) (.call 501 [.var 0, .con (.int 7)]), .ifs (.cmp (.eq) (.var 1) (.con (.int 0))) [.ret (.con (.non))] [], .ret (.ite (.cmp (.gt) (.var 1) (.con (.int 4))) (.ix (.lst false [.con (.str [97]), .con (.str [98]), .con (.str [97, 98]), .con (.str [])]) (.op (.add) (.op (.mul) (.con (.int 2)) (.op (.sub) (.var 1) (.con (.int 5)))) (.call 501 [.var 0, .con (.int 2)]))) (.op (.sub) (.var 1) (.con (.int 1))))]
def cellD : Df := { slots := 2, params := 1, body := cellB, keep := true, alone := false, init := false, kw := false, kws := [] }
def exprB (c : Nat) : List St := [.asg (.var 3) (.call 501 [.var 0, .con (.int 12)]), .ifs (.or (.cmp (.eq) (.var 2) (.con (.int 0))) (.cmp (.lt) (.var 3) (.con (.int 5)))) [.ifs (.or (.cmp (.eq) (.var 1) (.con (.int 0))) (.cmp (.eq) (.call 501 [.var 0, .con (.int 3)]) (.con (.int 0)))) [.ret (.tup [.con (.str [99, 111, 110, 115, 116, 97, 110, 116]), .call c [.var 0]])] [], .ret (.tup [.con (.str [99, 111, 108, 117, 109, 110]), .call 501 [.var 0, .var 1]])] [], .ifs (.cmp (.lt) (.var 3) (.con (.int 8))) [.asg (.var 4) (.ix (.lst false [.con (.str [110, 101, 103, 97, 116, 101]), .con (.str [110, 111, 116]), .con (.str [109, 105, 115, 115, 105, 110, 103]), .con (.str [108, 101, 110, 103, 116, 104])]) (.call 501 [.var 0, .con (.int 4)])), .ret (.tup [.var 4, .call 657 [.var 0, .var 1, .op (.sub) (.var 2) (.con (.int 1))]])] [], .asg (.var 5) (.call 657 [.var 0, .var 1, .op (.sub) (.var 2) (.con (.int 1))]), .asg (.var 6) (.call 657 [.var 0, .var 1, .op (.sub) (.var 2) (.con (.int 1))]), .ifs (.cmp (.eq) (.var 3) (.con (.int 8))) [.ret (.tup [.con (.str [99, 104, 111, 111, 115, 101]), .call 657 [.var 0, .var 1, .op (.sub) (.var 2) (.con (.int 1))], .var 5, .var 6])] [], .asg (.var 7) (.lst false [.con (.str [97, 100, 100]), .con (.str [115, 117, 98, 116, 114, 97, 99, 116]), .con (.str [109, 117, 108, 116, 105, 112, 108, 121]), .con (.str [100, 105, 118, 105, 100, 101]), .con (.str [114, 101, 109, 97, 105, 110, 100, 101, 114]), .con (.str [108, 101, 115, 115]), .con (.str [101, 113, 117, 97, 108]), .con (.str [97, 110, 100]), .con (.str [111, 114]), .con (.str [115, 116, 97, 114, 116, 115])]), .ret (.tup [.ix (.var 7) (.call 501 [.var 0, .con (.int 10)]), .var 5, .var 6])]
def exprD (c : Nat) : Df := { slots := 8, params := 3, body := exprB c, keep := true, alone := false, init := false, kw := false, kws := [] }
/-- a drawn value: small -/
def Va.sm : Va → Prop
  | .int i => 0 ≤ i ∧ i ≤ 3
  | _ => True
theorem set_same' {S : Sto} {i : Nat} {c : Cell} (h : S[i]? = some c) : S.set i c = S := by
  apply List.ext_getElem?
  intro j
  have hl := (List.getElem?_eq_some_iff.mp h).1
  by_cases e : i = j
  · subst e; rw [List.getElem?_set_self hl, h]
  · rw [List.getElem?_set_ne e]
theorem Va.int_ok {i : Int} (h : 0 ≤ i ∧ i ≤ 3) : (Va.int i).ok := ⟨by omega, by omega⟩
section
variable {G : Gm} {S : Sto} {k : Nat}
theorem cell_run {c : Nat} (f501 : G.defs 501 = some nextD) (fc : G.defs c = some cellD) {cl : Cell} (h0 : S[0]? = some cl) (hd : DrawC cl) (k : Nat) : ∃ v cl', run G (k + 2) c [.p 0] S = .ok (.d (Va.d v)) (S.set 0 cl') ∧ DrawC cl' ∧ v.ok ∧ v.sm := by
  have l0 : 0 < S.length := (List.getElem?_eq_some_iff.mp h0).1
  obtain ⟨v, c1, e1, d1, p1, q1⟩ := next_run (G := G) (k := k) (f := 501) f501 (m := 7) (by decide) (by decide) h0 hd
  have g1 : (S.set 0 c1)[0]? = some c1 := List.getElem?_set_self l0
  obtain ⟨v2, c2, e2, d2, p2, q2⟩ := next_run (G := G) (k := k) (f := 501) f501 (m := 2) (by decide) (by decide) g1 d1
  rw [List.set_set] at e2
  rw [run_keep (d := cellD) fc rfl rfl]
  have : v = 0 ∨ v = 1 ∨ v = 2 ∨ v = 3 ∨ v = 4 ∨ v = 5 ∨ v = 6 := by omega
  have w : v2 = 0 ∨ v2 = 1 := by omega
  have cm0 : cMul 2 0 = true := by decide
  have cm1 : cMul 2 1 = true := by decide
  rcases this with rfl | rfl | rfl | rfl | rfl | rfl | rfl
  · exact ⟨.non, c1, by simp [cellD, cellB, e1, Va.d], d1, trivial, trivial⟩
  · exact ⟨.int 0, c1, by simp [cellD, cellB, e1, Va.d], d1, Va.int_ok (by decide), ⟨by decide, by decide⟩⟩
  · exact ⟨.int 1, c1, by simp [cellD, cellB, e1, Va.d], d1, Va.int_ok (by decide), ⟨by decide, by decide⟩⟩
  · exact ⟨.int 2, c1, by simp [cellD, cellB, e1, Va.d], d1, Va.int_ok (by decide), ⟨by decide, by decide⟩⟩
  · exact ⟨.int 3, c1, by simp [cellD, cellB, e1, Va.d], d1, Va.int_ok (by decide), ⟨by decide, by decide⟩⟩
  · rcases w with rfl | rfl
    · exact ⟨.str [97], c2, by simp [cellD, cellB, e1, e2, Va.d, cm0, cm1], d2, by simp [Va.ok], trivial⟩
    · exact ⟨.str [98], c2, by simp [cellD, cellB, e1, e2, Va.d, cm0, cm1], d2, by simp [Va.ok], trivial⟩
  · rcases w with rfl | rfl
    · exact ⟨.str [97, 98], c2, by simp [cellD, cellB, e1, e2, Va.d, cm0, cm1], d2, by simp [Va.ok], trivial⟩
    · exact ⟨.str [], c2, by simp [cellD, cellB, e1, e2, Va.d, cm0, cm1], d2, by simp [Va.ok], trivial⟩
theorem expr_run {c : Nat} (f501 : G.defs 501 = some nextD) (fc : G.defs c = some cellD) (f657 : G.defs 657 = some (exprD c)) {w : Nat} (hw : w ≤ 1000) : ∀ (d : Nat) (S : Sto) (cl : Cell) (k : Nat), S[0]? = some cl → DrawC cl → d + 3 ≤ k →
    ∃ x cl', run G k 657 [.p 0, .d (.int (w : Int)), .d (.int (d : Int))] S = .ok (.d (Xp.enc x)) (S.set 0 cl') ∧ DrawC cl' ∧ x.In w ∧ x.h ≤ d := by
  have leaf : ∀ (d : Nat) (S : Sto) (cl : Cell) (k : Nat), S[0]? = some cl → DrawC cl → ∀ (v : Int) (c1 : Cell), run G (k + 2) 501 [.p 0, .d (.int 12)] S = .ok (.d (.int v)) (S.set 0 c1) → DrawC c1 → 0 ≤ v → (d = 0 ∨ v < 5) →
      ∃ x cl', run G (k + 3) 657 [.p 0, .d (.int (w : Int)), .d (.int (d : Int))] S = .ok (.d (Xp.enc x)) (S.set 0 cl') ∧ DrawC cl' ∧ x.In w ∧ x.h ≤ d := by
    intro d S cl k h0 hd v c1 e1 d1 p1 hv
    have l0 : 0 < S.length := (List.getElem?_eq_some_iff.mp h0).1
    have gs : ∀ c : Cell, (S.set 0 c)[0]? = some c := fun c => List.getElem?_set_self l0
    rw [run_keep (d := exprD c) f657 rfl rfl]
    have con : ∀ (c2 : Cell), DrawC c2 → ∃ v c3, run G (k + 2) c [.p 0] (S.set 0 c2) = .ok (.d (Va.d v)) (S.set 0 c3) ∧ DrawC c3 ∧ v.ok := fun c2 d2 => by
      obtain ⟨v, c3, e3, d3, o3, _⟩ := cell_run (G := G) f501 fc (gs c2) d2 k
      rw [List.set_set] at e3
      exact ⟨v, c3, e3, d3, o3⟩
    have hif : ∀ (b : Bool), (decide (d = 0) || decide (v < 5)) = true := fun _ => by rcases hv with h | h <;> simp [h]
    by_cases w0 : w = 0
    · subst w0
      obtain ⟨va, c3, e3, d3, o3⟩ := con c1 d1
      refine ⟨.con va, c3, ?_, d3, o3, Nat.zero_le _⟩
      rcases hv with h | h
      · subst h; simp [exprD, exprB, e1, e3, Xp.enc]
      · by_cases hd0 : d = 0
        · subst hd0; simp [exprD, exprB, e1, e3, Xp.enc]
        · simp [exprD, exprB, e1, e3, Xp.enc, h, hd0]
    · obtain ⟨v2, c2, e2, d2, p2, q2⟩ := next_run (G := G) (k := k + 1) (f := 501) f501 (m := 3) (by decide) (by decide) (gs c1) d1
      rw [List.set_set] at e2
      by_cases z : v2 = 0
      · subst z
        obtain ⟨va, c3, e3, d3, o3⟩ := con c2 d2
        refine ⟨.con va, c3, ?_, d3, o3, Nat.zero_le _⟩
        rcases hv with h | h
        · subst h; simp [exprD, exprB, e1, e2, e3, Xp.enc, w0]
        · by_cases hd0 : d = 0
          · subst hd0; simp [exprD, exprB, e1, e2, e3, Xp.enc, w0]
          · simp [exprD, exprB, e1, e2, e3, Xp.enc, h, hd0, w0]
      · obtain ⟨v3, c3, e3, d3, p3, q3⟩ := next_run (G := G) (k := k + 1) (f := 501) f501 (m := (w : Int)) (by omega) (by omega) (gs c2) d2
        rw [List.set_set] at e3
        have w3 : ((v3.toNat : Nat) : Int) = v3 := by omega
        refine ⟨.col v3.toNat, c3, ?_, d3, by show v3.toNat < w; omega, Nat.zero_le _⟩
        rcases hv with h | h
        · subst h; simp [exprD, exprB, e1, e2, e3, Xp.enc, w0, z, w3]
        · by_cases hd0 : d = 0
          · subst hd0; simp [exprD, exprB, e1, e2, e3, Xp.enc, w0, z, w3]
          · simp [exprD, exprB, e1, e2, e3, Xp.enc, h, hd0, w0, z, w3]
  intro d
  induction d with
  | zero =>
    intro S cl k h0 hd hk
    obtain ⟨k, rfl⟩ : ∃ j, k = j + 3 := ⟨k - 3, by omega⟩
    obtain ⟨v, c1, e1, d1, p1, q1⟩ := next_run (G := G) (k := k + 1) (f := 501) f501 (m := 12) (by decide) (by decide) h0 hd
    exact leaf 0 S cl k h0 hd v c1 e1 d1 p1 (.inl rfl)
  | succ d ih =>
    intro S cl k h0 hd hk
    obtain ⟨k, rfl⟩ : ∃ j, k = j + 3 := ⟨k - 3, by omega⟩
    have l0 : 0 < S.length := (List.getElem?_eq_some_iff.mp h0).1
    have gs : ∀ c : Cell, (S.set 0 c)[0]? = some c := fun c => List.getElem?_set_self l0
    obtain ⟨v, c1, e1, d1, p1, q1⟩ := next_run (G := G) (k := k + 1) (f := 501) f501 (m := 12) (by decide) (by decide) h0 hd
    by_cases h5 : v < 5
    · exact leaf (d + 1) S cl k h0 hd v c1 e1 d1 p1 (.inr h5)
    · have hd0 : ¬ ((d : Int) + 1 = 0) := by omega
      have hd1 : (d : Int) + 1 - 1 = (d : Int) := by omega
      rw [run_keep (d := exprD c) f657 rfl rfl]
      by_cases h8 : v < 8
      · obtain ⟨v2, c2, e2, d2, p2, q2⟩ := next_run (G := G) (k := k + 1) (f := 501) f501 (m := 4) (by decide) (by decide) (gs c1) d1
        rw [List.set_set] at e2
        obtain ⟨a, c3, e3, d3, i3, h3⟩ := ih (S.set 0 c2) c2 (k + 2) (gs c2) d2 (by omega)
        rw [List.set_set] at e3
        refine ⟨.one v2.toNat a, c3, ?_, d3, ⟨by omega, i3⟩, by show a.h + 1 ≤ d + 1; omega⟩
        have : v2 = 0 ∨ v2 = 1 ∨ v2 = 2 ∨ v2 = 3 := by omega
        rcases this with rfl | rfl | rfl | rfl <;> simp [exprD, exprB, e1, e2, e3, h5, h8, hd0, hd1, Xp.enc, nm1]
      · obtain ⟨a, c2, e2, d2, i2, h2⟩ := ih (S.set 0 c1) c1 (k + 2) (gs c1) d1 (by omega)
        rw [List.set_set] at e2
        obtain ⟨b, c3, e3, d3, i3, h3⟩ := ih (S.set 0 c2) c2 (k + 2) (gs c2) d2 (by omega)
        rw [List.set_set] at e3
        by_cases h9 : v = 8
        · subst h9
          obtain ⟨x, c4, e4, d4, i4, h4⟩ := ih (S.set 0 c3) c3 (k + 2) (gs c3) d3 (by omega)
          rw [List.set_set] at e4
          refine ⟨.cho x a b, c4, ?_, d4, ⟨i4, i2, i3⟩, by show max x.h (max a.h b.h) + 1 ≤ d + 1; omega⟩
          simp [exprD, exprB, e1, e2, e3, e4, hd0, hd1, Xp.enc]
        · obtain ⟨v4, c4, e4, d4, p4, q4⟩ := next_run (G := G) (k := k + 1) (f := 501) f501 (m := 10) (by decide) (by decide) (gs c3) d3
          rw [List.set_set] at e4
          refine ⟨.two v4.toNat a b, c4, ?_, d4, ⟨by omega, i2, i3⟩, by show max a.h b.h + 1 ≤ d + 1; omega⟩
          have : v4 = 0 ∨ v4 = 1 ∨ v4 = 2 ∨ v4 = 3 ∨ v4 = 4 ∨ v4 = 5 ∨ v4 = 6 ∨ v4 = 7 ∨ v4 = 8 ∨ v4 = 9 := by omega
          rcases this with rfl | rfl | rfl | rfl | rfl | rfl | rfl | rfl | rfl | rfl <;> simp [exprD, exprB, e1, e2, e3, e4, h5, h8, h9, hd0, hd1, Xp.enc, nm2]
/-- values drawn one after the other -/
theorem cells_run {c i : Nat} (f501 : G.defs 501 = some nextD) (fc : G.defs c = some cellD) {ρ : Env} (h1 : (ρ[1]?).bind id = some (.p 0)) (hi1 : i ≠ 1) : ∀ (xs acc : List Vl) (S : Sto) (cl : Cell), S[0]? = some cl → DrawC cl → acc.length + xs.length ≤ 1000 →
    ∃ (vs : List Va) (cl' : Cell), turns (lcB G (run G (k + 2)) none (.call c [.var 1])) (.var i) ρ xs acc S = .ok (acc ++ vs.map (Vl.d ∘ Va.d)) (S.set 0 cl') ∧ DrawC cl' ∧ vs.length = xs.length ∧ ∀ v ∈ vs, Va.ok v ∧ v.sm
  | [], acc, S, cl, h0, hd, _ => ⟨[], cl, by
      have : S.set 0 cl = S := set_same' h0
      rw [this]; simp [turns], hd, rfl, by simp⟩
  | x :: xs, acc, S, cl, h0, hd, hl => by
    rw [List.length_cons] at hl
    have l0 : 0 < S.length := (List.getElem?_eq_some_iff.mp h0).1
    obtain ⟨v, c1, e1, d1, o1, s1⟩ := cell_run (G := G) f501 fc h0 hd k
    have g1 : (S.set 0 c1)[0]? = some c1 := List.getElem?_set_self l0
    obtain ⟨vs, c2, e2, d2, l2, o2⟩ := cells_run f501 fc h1 hi1 xs (acc ++ [.d v.d]) (S.set 0 c1) c1 g1 d1 (by simp; omega)
    rw [List.set_set] at e2
    refine ⟨v :: vs, c2, ?_, d2, by simp [l2], fun u hu => ?_⟩
    · have hz : acc.length < 16777216 := by omega
      have e9 : ((ρ.set i (some x))[1]?).bind id = some (.p 0) := by rw [List.getElem?_set_ne hi1]; exact h1
      have one : lcB G (run G (k + 2)) none (.call c [.var 1]) (ρ.set i (some x)) S = .ok (some (.d v.d)) (S.set 0 c1) := by simp [e9, e1]
      unfold turns
      simp only [bindT_var, one, most, hz, decide_true, if_true]
      rw [e2]
      simp
    · rcases List.mem_cons.mp hu with z | z
      · rw [z]; exact ⟨o1, s1⟩
      · exact o2 u z
end
/-! ### shown -/
def Va.py : Va → PySem.PyData
  | .non => .none
  | .int i => .int i
  | .str s => .str ⟨s.toArray⟩
theorem py_chars {s : Tx} (h : (s.all fun c => decide (c < 1114112)) = true) : (s.all fun c => decide (c < 16 ^ 8)) = true := by
  rw [List.all_eq_true] at h ⊢
  intro c hc
  have := of_decide_eq_true (h c hc)
  exact decide_eq_true (Nat.lt_trans this (by decide))
theorem Va.pyD_ok {v : Va} (h : v.ok) : pyD v.d = some v.py ∧ wPy v.py ≤ 10002 ∧ v.py.depth = 0 := by
  cases v with
  | non => exact ⟨rfl, by simp [Va.py, wPy], rfl⟩
  | int i =>
    have h1 := h.1
    have h2 := h.2
    have : i.natAbs < 10 ^ 77 := by omega
    exact ⟨by simp only [Va.d, pyD, this, decide_true, if_true, Va.py], by simp [Va.py, wPy], rfl⟩
  | str s =>
    have hc := py_chars h.2
    refine ⟨by simp only [Va.d, pyD, hc, if_true, Va.py], ?_, rfl⟩
    have := h.1
    simp only [Va.py, wPy, PySem.Str.length]
    simp; omega
theorem pys_va : ∀ {r : List Va}, (∀ v ∈ r, v.ok) → pyDs (r.map Va.d) = some (r.map Va.py) ∧ wPys (r.map Va.py) ≤ 10010 * r.length ∧ PySem.PyData.depthAll (r.map Va.py) = 0
  | [], _ => ⟨rfl, by simp [wPys], rfl⟩
  | v :: r, h => by
    obtain ⟨h1, h2, h3⟩ := Va.pyD_ok (h v (by simp))
    obtain ⟨g1, g2, g3⟩ := pys_va (r := r) fun u hu => h u (List.mem_cons_of_mem _ hu)
    refine ⟨by simp only [List.map_cons, pyDs, h1, g1], by simp only [List.map_cons, wPys, List.length_cons]; omega, by simp only [List.map_cons, PySem.PyData.depthAll, h3, g3]; rfl⟩
theorem pyDs_cons {d : D} {ds : List D} {a : PySem.PyData} {as : List PySem.PyData} (h : pyD d = some a) (k : pyDs ds = some as) : pyDs (d :: ds) = some (a :: as) := by
  simp only [pyDs, h, k]
theorem pyD_tup {ds : List D} {as : List PySem.PyData} (k : pyDs ds = some as) : pyD (.tup ds) = some (.tuple as) := by
  simp only [pyD, k, Option.map_some]
theorem nm_py1 {o : Nat} (h : o < 4) : ∃ p, pyD (.str (nm1 o)) = some p ∧ wPy p ≤ 200 ∧ p.depth = 0 := by
  match o, h with
  | 0, _ => exact ⟨_, rfl, by decide, rfl⟩
  | 1, _ => exact ⟨_, rfl, by decide, rfl⟩
  | 2, _ => exact ⟨_, rfl, by decide, rfl⟩
  | 3, _ => exact ⟨_, rfl, by decide, rfl⟩
theorem nm_py2 {o : Nat} (h : o < 10) : ∃ p, pyD (.str (nm2 o)) = some p ∧ wPy p ≤ 200 ∧ p.depth = 0 := by
  match o, h with
  | 0, _ => exact ⟨_, rfl, by decide, rfl⟩
  | 1, _ => exact ⟨_, rfl, by decide, rfl⟩
  | 2, _ => exact ⟨_, rfl, by decide, rfl⟩
  | 3, _ => exact ⟨_, rfl, by decide, rfl⟩
  | 4, _ => exact ⟨_, rfl, by decide, rfl⟩
  | 5, _ => exact ⟨_, rfl, by decide, rfl⟩
  | 6, _ => exact ⟨_, rfl, by decide, rfl⟩
  | 7, _ => exact ⟨_, rfl, by decide, rfl⟩
  | 8, _ => exact ⟨_, rfl, by decide, rfl⟩
  | 9, _ => exact ⟨_, rfl, by decide, rfl⟩
theorem xp_py {w : Nat} (hw : w ≤ 1000) : ∀ x : Xp, x.In w → ∃ p, pyD x.enc = some p ∧ wPy p ≤ 20000 * 4 ^ x.h ∧ p.depth ≤ x.h + 1
  | .col i, h => by
    have h : i < w := h
    have hi : (i : Int).natAbs < 10 ^ 77 := by omega
    refine ⟨.tuple [.str ⟨#[99, 111, 108, 117, 109, 110]⟩, .int (i : Int)], ?_, ?_, ?_⟩
    · exact pyD_tup (pyDs_cons rfl (pyDs_cons (by simp only [pyD, hi, decide_true, if_true]) rfl))
    · simp [wPy, wPys, Xp.h, PySem.Str.length]
    · simp [PySem.PyData.depth, PySem.PyData.depthAll]
  | .con v, h => by
    obtain ⟨h1, h2, h3⟩ := Va.pyD_ok h
    refine ⟨.tuple [.str ⟨#[99, 111, 110, 115, 116, 97, 110, 116]⟩, v.py], ?_, ?_, ?_⟩
    · exact pyD_tup (pyDs_cons rfl (pyDs_cons h1 rfl))
    · simp [wPy, wPys, Xp.h, PySem.Str.length]; omega
    · simp [PySem.PyData.depth, PySem.PyData.depthAll, h3]
  | .one o a, h => by
    obtain ⟨p, h1, h2, h3⟩ := nm_py1 h.1
    obtain ⟨q, g1, g2, g3⟩ := xp_py hw a h.2
    have hp := Nat.one_le_pow a.h 4 (by decide)
    refine ⟨.tuple [p, q], ?_, ?_, ?_⟩
    · exact pyD_tup (pyDs_cons h1 (pyDs_cons g1 rfl))
    · simp only [wPy, wPys, Xp.h, Nat.pow_succ]; omega
    · simp only [PySem.PyData.depth, PySem.PyData.depthAll, Xp.h]; omega
  | .two o a b, h => by
    obtain ⟨p, h1, h2, h3⟩ := nm_py2 h.1
    obtain ⟨q, g1, g2, g3⟩ := xp_py hw a h.2.1
    obtain ⟨s, k1, k2, k3⟩ := xp_py hw b h.2.2
    have hp1 : 4 ^ a.h ≤ 4 ^ max a.h b.h := Nat.pow_le_pow_right (by decide) (Nat.le_max_left _ _)
    have hp2 : 4 ^ b.h ≤ 4 ^ max a.h b.h := Nat.pow_le_pow_right (by decide) (Nat.le_max_right _ _)
    have hp := Nat.one_le_pow (max a.h b.h) 4 (by decide)
    refine ⟨.tuple [p, q, s], ?_, ?_, ?_⟩
    · exact pyD_tup (pyDs_cons h1 (pyDs_cons g1 (pyDs_cons k1 rfl)))
    · simp only [wPy, wPys, Xp.h, Nat.pow_succ]; omega
    · simp only [PySem.PyData.depth, PySem.PyData.depthAll, Xp.h]; omega
  | .cho c a b, h => by
    obtain ⟨p, h1, h2, h3⟩ := xp_py hw c h.1
    obtain ⟨q, g1, g2, g3⟩ := xp_py hw a h.2.1
    obtain ⟨s, k1, k2, k3⟩ := xp_py hw b h.2.2
    have hp0 : 4 ^ c.h ≤ 4 ^ max c.h (max a.h b.h) := Nat.pow_le_pow_right (by decide) (by omega)
    have hp1 : 4 ^ a.h ≤ 4 ^ max c.h (max a.h b.h) := Nat.pow_le_pow_right (by decide) (by omega)
    have hp2 : 4 ^ b.h ≤ 4 ^ max c.h (max a.h b.h) := Nat.pow_le_pow_right (by decide) (by omega)
    have hp := Nat.one_le_pow (max c.h (max a.h b.h)) 4 (by decide)
    refine ⟨.tuple [.str ⟨#[99, 104, 111, 111, 115, 101]⟩, p, q, s], ?_, ?_, ?_⟩
    · exact pyD_tup (pyDs_cons rfl (pyDs_cons h1 (pyDs_cons g1 (pyDs_cons k1 rfl))))
    · simp [wPy, wPys, Xp.h, Nat.pow_succ, PySem.Str.length]; omega
    · simp [PySem.PyData.depth, PySem.PyData.depthAll, Xp.h]; omega
/-- repr([expression, row]) -/
theorem rep_xr {r : List Va} (hr : ∀ v ∈ r, v.ok) (hl : r.length ≤ 10) {x : Xp} (hx : x.In r.length) (hh : x.h ≤ 4) : ∃ SH, ∀ S : Sto, bRep [.d x.enc, .d (.tup (r.map Va.d))] S = .ok (.d (.str SH)) S := by
  obtain ⟨p, h1, h2, h3⟩ := xp_py (by omega) x hx
  obtain ⟨g1, g2, g3⟩ := pys_va hr
  have hp : 4 ^ x.h ≤ 4 ^ 4 := Nat.pow_le_pow_right (by decide) hh
  refine ⟨shT (.list [p, .tuple (r.map Va.py)]), fun S => ?_⟩
  have hfit : fits (.list [p, .tuple (r.map Va.py)]) = true := by
    unfold fits
    simp only [wPy, wPys, PySem.PyData.depth, PySem.PyData.depthAll, g3, Bool.and_eq_true]
    exact ⟨decide_eq_true (by omega), decide_eq_true (by omega)⟩
  have hds : pyDs [x.enc, .tup (r.map Va.d)] = some [p, .tuple (r.map Va.py)] := by
    simp only [pyDs, pyD, h1, g1, Option.map_some]
  simp only [bRep, deep.deeps, deep, hds, hfit, if_true]
theorem Va.okS (v : Va) : okS 0 v.d = true := by cases v <;> rfl
end Z
end

set_option maxRecDepth 100000
set_option maxHeartbeats 0
namespace Law
open PySem L2 Z
def top (i : Nat) : Stmt := PySem.Challenge.pw_lineworks_k51_expressions_are_evaluated.main.body.getD i (.Pass ⟨0, 0, 0, 0⟩)
def gg : List Str := []
def kd : List (Str × (Nat × List (Nat × List Str × List (Option D)))) := []
def gd : List (Str × Nat) := [(("value_key" : Str), 426), (("bounded" : Str), 428), (("truth" : Str), 429), (("is_true" : Str), 430), (("from_truth" : Str), 431), (("both_true" : Str), 432), (("either_true" : Str), 433), (("negate" : Str), 434), (("is_false" : Str), 435), (("is_missing" : Str), 436), (("length" : Str), 437), (("add" : Str), 438), (("subtract" : Str), 439), (("multiply" : Str), 440), (("divide" : Str), 441), (("remainder" : Str), 442), (("is_less" : Str), 443), (("is_equal" : Str), 444), (("conjunction" : Str), 445), (("disjunction" : Str), 446), (("starts" : Str), 447), (("apply_two" : Str), 448), (("evaluate" : Str), 449), (("_law_draw" : Str), 500), (("_law_next" : Str), 501), (("_law_same" : Str), 507), (("_law_cell" : Str), 0), (("_law_key" : Str), 531), (("_law_expression" : Str), 657), (("_law_known" : Str), 658), (("_law_bounded" : Str), 532), (("_law_arithmetic" : Str), 659), (("_law_logic" : Str), 660), (("_law_single" : Str), 661), (("_law_due" : Str), 662), (("_law_great" : Str), 1), (("law" : Str), 2)]
def gb : List Str := ["isinstance", "str", "int", "len", "list", "abs", "tuple", "all", "bool", "range", "repr"]
def gc : List (Str × Nat) := [(("GREATEST" : Str), 139), (("ONE" : Str), 140), (("NUMBERS" : Str), 141), (("TWO" : Str), 142)]
def gf : List (Str × (Nat × List Nat)) := []
def gm : List (Str × List (Nat × Nat)) := []
def gk : List (Str × (Nat × Nat)) := []
def c426 : Cs := { N := ["value"], sc := defScope (top 2), gd := gd, gc := gc, gb := gb, fl := gf, mt := gm, cls := gk, gg := gg, kd := kd, cells := [], frz := [], retc := false, fcells := ["_nodes", "_numbers", "_results"], tdl := [], rv := [] }
def c428 : Cs := { N := ["number"], sc := defScope (top 3), gd := gd, gc := gc, gb := gb, fl := gf, mt := gm, cls := gk, gg := gg, kd := kd, cells := [], frz := [], retc := false, fcells := ["_nodes", "_numbers", "_results"], tdl := [], rv := [] }
def c429 : Cs := { N := ["value"], sc := defScope (top 4), gd := gd, gc := gc, gb := gb, fl := gf, mt := gm, cls := gk, gg := gg, kd := kd, cells := [], frz := [], retc := false, fcells := ["_nodes", "_numbers", "_results"], tdl := [], rv := [] }
def c430 : Cs := { N := ["value"], sc := defScope (top 5), gd := gd, gc := gc, gb := gb, fl := gf, mt := gm, cls := gk, gg := gg, kd := kd, cells := [], frz := [], retc := false, fcells := ["_nodes", "_numbers", "_results"], tdl := [], rv := [] }
def c431 : Cs := { N := ["known"], sc := defScope (top 6), gd := gd, gc := gc, gb := gb, fl := gf, mt := gm, cls := gk, gg := gg, kd := kd, cells := [], frz := [], retc := false, fcells := ["_nodes", "_numbers", "_results"], tdl := [], rv := [] }
def c432 : Cs := { N := ["first", "second"], sc := defScope (top 7), gd := gd, gc := gc, gb := gb, fl := gf, mt := gm, cls := gk, gg := gg, kd := kd, cells := [], frz := [], retc := false, fcells := ["_nodes", "_numbers", "_results"], tdl := [], rv := [] }
def c433 : Cs := { N := ["first", "second"], sc := defScope (top 8), gd := gd, gc := gc, gb := gb, fl := gf, mt := gm, cls := gk, gg := gg, kd := kd, cells := [], frz := [], retc := false, fcells := ["_nodes", "_numbers", "_results"], tdl := [], rv := [] }
def c434 : Cs := { N := ["value"], sc := defScope (top 9), gd := gd, gc := gc, gb := gb, fl := gf, mt := gm, cls := gk, gg := gg, kd := kd, cells := [], frz := [], retc := false, fcells := ["_nodes", "_numbers", "_results"], tdl := [], rv := [] }
def c435 : Cs := { N := ["value", "known"], sc := defScope (top 10), gd := gd, gc := gc, gb := gb, fl := gf, mt := gm, cls := gk, gg := gg, kd := kd, cells := [], frz := [], retc := false, fcells := ["_nodes", "_numbers", "_results"], tdl := [], rv := [] }
def c436 : Cs := { N := ["value"], sc := defScope (top 11), gd := gd, gc := gc, gb := gb, fl := gf, mt := gm, cls := gk, gg := gg, kd := kd, cells := [], frz := [], retc := false, fcells := ["_nodes", "_numbers", "_results"], tdl := [], rv := [] }
def c437 : Cs := { N := ["value"], sc := defScope (top 12), gd := gd, gc := gc, gb := gb, fl := gf, mt := gm, cls := gk, gg := gg, kd := kd, cells := [], frz := [], retc := false, fcells := ["_nodes", "_numbers", "_results"], tdl := [], rv := [] }
def c438 : Cs := { N := ["first", "second"], sc := defScope (top 13), gd := gd, gc := gc, gb := gb, fl := gf, mt := gm, cls := gk, gg := gg, kd := kd, cells := [], frz := [], retc := false, fcells := ["_nodes", "_numbers", "_results"], tdl := [], rv := [] }
def c439 : Cs := { N := ["first", "second"], sc := defScope (top 14), gd := gd, gc := gc, gb := gb, fl := gf, mt := gm, cls := gk, gg := gg, kd := kd, cells := [], frz := [], retc := false, fcells := ["_nodes", "_numbers", "_results"], tdl := [], rv := [] }
def c440 : Cs := { N := ["first", "second"], sc := defScope (top 15), gd := gd, gc := gc, gb := gb, fl := gf, mt := gm, cls := gk, gg := gg, kd := kd, cells := [], frz := [], retc := false, fcells := ["_nodes", "_numbers", "_results"], tdl := [], rv := [] }
def c441 : Cs := { N := ["first", "second"], sc := defScope (top 16), gd := gd, gc := gc, gb := gb, fl := gf, mt := gm, cls := gk, gg := gg, kd := kd, cells := [], frz := [], retc := false, fcells := ["_nodes", "_numbers", "_results"], tdl := [], rv := [] }
def c442 : Cs := { N := ["first", "second"], sc := defScope (top 17), gd := gd, gc := gc, gb := gb, fl := gf, mt := gm, cls := gk, gg := gg, kd := kd, cells := [], frz := [], retc := false, fcells := ["_nodes", "_numbers", "_results"], tdl := [], rv := [] }
def c443 : Cs := { N := ["first", "second"], sc := defScope (top 18), gd := gd, gc := gc, gb := gb, fl := gf, mt := gm, cls := gk, gg := gg, kd := kd, cells := [], frz := [], retc := false, fcells := ["_nodes", "_numbers", "_results"], tdl := [], rv := [] }
def c444 : Cs := { N := ["first", "second"], sc := defScope (top 19), gd := gd, gc := gc, gb := gb, fl := gf, mt := gm, cls := gk, gg := gg, kd := kd, cells := [], frz := [], retc := false, fcells := ["_nodes", "_numbers", "_results"], tdl := [], rv := [] }
def c445 : Cs := { N := ["first", "second"], sc := defScope (top 20), gd := gd, gc := gc, gb := gb, fl := gf, mt := gm, cls := gk, gg := gg, kd := kd, cells := [], frz := [], retc := false, fcells := ["_nodes", "_numbers", "_results"], tdl := [], rv := [] }
def c446 : Cs := { N := ["first", "second"], sc := defScope (top 21), gd := gd, gc := gc, gb := gb, fl := gf, mt := gm, cls := gk, gg := gg, kd := kd, cells := [], frz := [], retc := false, fcells := ["_nodes", "_numbers", "_results"], tdl := [], rv := [] }
def c447 : Cs := { N := ["first", "second"], sc := defScope (top 22), gd := gd, gc := gc, gb := gb, fl := gf, mt := gm, cls := gk, gg := gg, kd := kd, cells := [], frz := [], retc := false, fcells := ["_nodes", "_numbers", "_results"], tdl := [], rv := [] }
def c448 : Cs := { N := ["form", "first", "second", "action"], sc := defScope (top 26), gd := gd, gc := gc, gb := gb, fl := gf, mt := gm, cls := gk, gg := gg, kd := kd, cells := [], frz := [], retc := false, fcells := ["_nodes", "_numbers", "_results"], tdl := [], rv := [] }
def c449 : Cs := { N := ["expression", "row", "form", "first", "action"], sc := defScope (top 27), gd := gd, gc := gc, gb := gb, fl := gf, mt := gm, cls := gk, gg := gg, kd := kd, cells := [], frz := [], retc := false, fcells := ["_nodes", "_numbers", "_results"], tdl := [], rv := [] }
def c500 : Cs := { N := ["script"], sc := defScope (top 29), gd := gd, gc := gc, gb := gb, fl := gf, mt := gm, cls := gk, gg := gg, kd := kd, cells := [], frz := [], retc := true, fcells := ["_nodes", "_numbers", "_results"], tdl := [], rv := [] }
def c501 : Cs := { N := ["draw", "many", "found", "cell"], sc := defScope (top 30), gd := gd, gc := gc, gb := gb, fl := gf, mt := gm, cls := gk, gg := gg, kd := kd, cells := [], frz := [], retc := false, fcells := ["_nodes", "_numbers", "_results"], tdl := [], rv := [] }
def c507 : Cs := { N := ["actual", "due", "k"], sc := defScope (top 31), gd := gd, gc := gc, gb := gb, fl := gf, mt := gm, cls := gk, gg := gg, kd := kd, cells := [], frz := [], retc := false, fcells := ["_nodes", "_numbers", "_results"], tdl := [], rv := [] }
def c0 : Cs := { N := ["draw", "form"], sc := defScope (top 32), gd := gd, gc := gc, gb := gb, fl := gf, mt := gm, cls := gk, gg := gg, kd := kd, cells := [], frz := [], retc := false, fcells := ["_nodes", "_numbers", "_results"], tdl := [], rv := [] }
def c531 : Cs := { N := ["value"], sc := defScope (top 33), gd := gd, gc := gc, gb := gb, fl := gf, mt := gm, cls := gk, gg := gg, kd := kd, cells := [], frz := [], retc := false, fcells := ["_nodes", "_numbers", "_results"], tdl := [], rv := [] }
def c657 : Cs := { N := ["draw", "width", "depth", "form", "word", "first", "second", "words"], sc := defScope (top 37), gd := gd, gc := gc, gb := gb, fl := gf, mt := gm, cls := gk, gg := gg, kd := kd, cells := [], frz := [], retc := false, fcells := ["_nodes", "_numbers", "_results"], tdl := [], rv := [] }
def c658 : Cs := { N := ["value"], sc := defScope (top 38), gd := gd, gc := gc, gb := gb, fl := gf, mt := gm, cls := gk, gg := gg, kd := kd, cells := [], frz := [], retc := false, fcells := ["_nodes", "_numbers", "_results"], tdl := [], rv := [] }
def c532 : Cs := { N := ["number"], sc := defScope (top 39), gd := gd, gc := gc, gb := gb, fl := gf, mt := gm, cls := gk, gg := gg, kd := kd, cells := [], frz := [], retc := false, fcells := ["_nodes", "_numbers", "_results"], tdl := [], rv := [] }
def c659 : Cs := { N := ["word", "first", "second", "quotient"], sc := defScope (top 40), gd := gd, gc := gc, gb := gb, fl := gf, mt := gm, cls := gk, gg := gg, kd := kd, cells := [], frz := [], retc := false, fcells := ["_nodes", "_numbers", "_results"], tdl := [], rv := [] }
def c660 : Cs := { N := ["word", "first", "second", "deciding", "one", "two"], sc := defScope (top 41), gd := gd, gc := gc, gb := gb, fl := gf, mt := gm, cls := gk, gg := gg, kd := kd, cells := [], frz := [], retc := false, fcells := ["_nodes", "_numbers", "_results"], tdl := [], rv := [] }
def c661 : Cs := { N := ["word", "value"], sc := defScope (top 42), gd := gd, gc := gc, gb := gb, fl := gf, mt := gm, cls := gk, gg := gg, kd := kd, cells := [], frz := [], retc := false, fcells := ["_nodes", "_numbers", "_results"], tdl := [], rv := [] }
def c662 : Cs := { N := ["tree", "row", "word", "first", "second"], sc := defScope (top 43), gd := gd, gc := gc, gb := gb, fl := gf, mt := gm, cls := gk, gg := gg, kd := kd, cells := [], frz := [], retc := false, fcells := ["_nodes", "_numbers", "_results"], tdl := [], rv := [] }
def c1 : Cs := { N := ["draw", "row", "values", "value"], sc := defScope (top 47), gd := gd, gc := gc, gb := gb, fl := gf, mt := gm, cls := gk, gg := gg, kd := kd, cells := ["values"], frz := [], retc := false, fcells := ["_nodes", "_numbers", "_results"], tdl := [], rv := [] }
def c2 : Cs := { N := ["script", "draw", "width", "row", "k", "tree", "kept", "due"], sc := defScope (top 48), gd := gd, gc := gc, gb := gb, fl := gf, mt := gm, cls := gk, gg := gg, kd := kd, cells := [], frz := [], retc := false, fcells := ["_nodes", "_numbers", "_results"], tdl := [], rv := [] }
def b426 : List Z.St := [.ifs (.cmp (.is) (.var 0) (.con (.non))) [.ret (.tup [.con (.int 0), .con (.int 0), .con (.str [])])] [], .ifs (.bf (.isinst [1]) false [.var 0]) [.ret (.tup [.con (.int 2), .con (.int 0), .var 0])] [], .ret (.tup [.con (.int 1), .var 0, .con (.str [])])]
def d426 : Df := { slots := 1, params := 1, body := b426, keep := false, alone := true, init := false, kw := false, kws := [] }
def b428 : List Z.St := [.ifs (.chain (.le) (.le) (.neg (.glob 139)) (.var 0) (.glob 139)) [.ret (.var 0)] [], .ret (.con (.non))]
def d428 : Df := { slots := 1, params := 1, body := b428, keep := false, alone := true, init := false, kw := false, kws := [] }
def b429 : List Z.St := [.ifs (.bf (.isinst [0]) false [.var 0]) [.ret (.cmp (.ne) (.var 0) (.con (.int 0)))] [], .ret (.con (.non))]
def d429 : Df := { slots := 1, params := 1, body := b429, keep := false, alone := true, init := false, kw := false, kws := [] }
def b430 : List Z.St := [.ret (.and (.bf (.isinst [0]) false [.var 0]) (.cmp (.ne) (.var 0) (.con (.int 0))))]
def d430 : Df := { slots := 1, params := 1, body := b430, keep := false, alone := true, init := false, kw := false, kws := [] }
def b431 : List Z.St := [.ifs (.cmp (.is) (.var 0) (.con (.non))) [.ret (.con (.non))] [], .ret (.ite (.var 0) (.con (.int 1)) (.con (.int 0)))]
def d431 : Df := { slots := 1, params := 1, body := b431, keep := false, alone := true, init := false, kw := false, kws := [] }
def b432 : List Z.St := [.ifs (.or (.cmp (.is) (.var 0) (.con (.bl false))) (.cmp (.is) (.var 1) (.con (.bl false)))) [.ret (.con (.bl false))] [], .ifs (.or (.cmp (.is) (.var 0) (.con (.non))) (.cmp (.is) (.var 1) (.con (.non)))) [.ret (.con (.non))] [], .ret (.con (.bl true))]
def d432 : Df := { slots := 2, params := 2, body := b432, keep := false, alone := true, init := false, kw := false, kws := [] }
def b433 : List Z.St := [.ifs (.or (.cmp (.is) (.var 0) (.con (.bl true))) (.cmp (.is) (.var 1) (.con (.bl true)))) [.ret (.con (.bl true))] [], .ifs (.or (.cmp (.is) (.var 0) (.con (.non))) (.cmp (.is) (.var 1) (.con (.non)))) [.ret (.con (.non))] [], .ret (.con (.bl false))]
def d433 : Df := { slots := 2, params := 2, body := b433, keep := false, alone := true, init := false, kw := false, kws := [] }
def b434 : List Z.St := [.ret (.ite (.bf (.isinst [0]) false [.var 0]) (.call 428 [.neg (.var 0)]) (.con (.non)))]
def d434 : Df := { slots := 1, params := 1, body := b434, keep := false, alone := true, init := false, kw := false, kws := [] }
def b435 : List Z.St := [.asg (.var 1) (.call 429 [.var 0]), .ret (.ite (.cmp (.is) (.var 1) (.con (.non))) (.con (.non)) (.call 431 [.not (.var 1)]))]
def d435 : Df := { slots := 2, params := 1, body := b435, keep := false, alone := true, init := false, kw := false, kws := [] }
def b436 : List Z.St := [.ret (.ite (.cmp (.is) (.var 0) (.con (.non))) (.con (.int 1)) (.con (.int 0)))]
def d436 : Df := { slots := 1, params := 1, body := b436, keep := false, alone := true, init := false, kw := false, kws := [] }
def b437 : List Z.St := [.ret (.ite (.bf (.isinst [1]) false [.var 0]) (.bf (.len) false [.var 0]) (.con (.non)))]
def d437 : Df := { slots := 1, params := 1, body := b437, keep := false, alone := true, init := false, kw := false, kws := [] }
def b438 : List Z.St := [.ret (.call 428 [.op (.add) (.var 0) (.var 1)])]
def d438 : Df := { slots := 2, params := 2, body := b438, keep := false, alone := true, init := false, kw := false, kws := [] }
def b439 : List Z.St := [.ret (.call 428 [.op (.sub) (.var 0) (.var 1)])]
def d439 : Df := { slots := 2, params := 2, body := b439, keep := false, alone := true, init := false, kw := false, kws := [] }
def b440 : List Z.St := [.ret (.call 428 [.op (.mul) (.var 0) (.var 1)])]
def d440 : Df := { slots := 2, params := 2, body := b440, keep := false, alone := true, init := false, kw := false, kws := [] }
def b441 : List Z.St := [.ret (.ite (.cmp (.ge) (.var 1) (.con (.int 1))) (.call 428 [.op (.fdiv) (.var 0) (.var 1)]) (.con (.non)))]
def d441 : Df := { slots := 2, params := 2, body := b441, keep := false, alone := true, init := false, kw := false, kws := [] }
def b442 : List Z.St := [.ret (.ite (.cmp (.ge) (.var 1) (.con (.int 1))) (.call 428 [.op (.mod) (.var 0) (.var 1)]) (.con (.non)))]
def d442 : Df := { slots := 2, params := 2, body := b442, keep := false, alone := true, init := false, kw := false, kws := [] }
def b443 : List Z.St := [.ifs (.or (.cmp (.is) (.var 0) (.con (.non))) (.cmp (.is) (.var 1) (.con (.non)))) [.ret (.con (.non))] [], .ret (.ite (.cmp (.lt) (.call 426 [.var 0]) (.call 426 [.var 1])) (.con (.int 1)) (.con (.int 0)))]
def d443 : Df := { slots := 2, params := 2, body := b443, keep := false, alone := true, init := false, kw := false, kws := [] }
def b444 : List Z.St := [.ifs (.or (.cmp (.is) (.var 0) (.con (.non))) (.cmp (.is) (.var 1) (.con (.non)))) [.ret (.con (.non))] [], .ret (.ite (.cmp (.eq) (.call 426 [.var 0]) (.call 426 [.var 1])) (.con (.int 1)) (.con (.int 0)))]
def d444 : Df := { slots := 2, params := 2, body := b444, keep := false, alone := true, init := false, kw := false, kws := [] }
def b445 : List Z.St := [.ret (.call 431 [.call 432 [.call 429 [.var 0], .call 429 [.var 1]]])]
def d445 : Df := { slots := 2, params := 2, body := b445, keep := false, alone := true, init := false, kw := false, kws := [] }
def b446 : List Z.St := [.ret (.call 431 [.call 433 [.call 429 [.var 0], .call 429 [.var 1]]])]
def d446 : Df := { slots := 2, params := 2, body := b446, keep := false, alone := true, init := false, kw := false, kws := [] }
def b447 : List Z.St := [.ifs (.and (.bf (.isinst [1]) false [.var 0]) (.bf (.isinst [1]) false [.var 1])) [.ret (.ite (.bm (.startswith) (.var 0) [.var 1]) (.con (.int 1)) (.con (.int 0)))] [], .ret (.con (.non))]
def d447 : Df := { slots := 2, params := 2, body := b447, keep := false, alone := true, init := false, kw := false, kws := [] }
def b448 : List Z.St := [.ifs (.cmp (.mem) (.var 0) (.glob 141)) [.ifs (.and (.bf (.isinst [0]) false [.var 1]) (.bf (.isinst [0]) false [.var 2])) [.asg (.var 3) (.ix (.glob 141) (.var 0)), .ret (.callv 3 [.var 1, .var 2])] [], .ret (.con (.non))] [], .asg (.var 3) (.ix (.glob 142) (.var 0)), .ret (.callv 3 [.var 1, .var 2])]
def d448 : Df := { slots := 4, params := 3, body := b448, keep := false, alone := true, init := false, kw := false, kws := [] }
def b449 : List Z.St := [.asg (.var 2) (.ix (.var 0) (.con (.int 0))), .ifs (.cmp (.eq) (.var 2) (.con (.str [99, 111, 108, 117, 109, 110]))) [.ret (.ix (.var 1) (.ix (.var 0) (.con (.int 1))))] [], .ifs (.cmp (.eq) (.var 2) (.con (.str [99, 111, 110, 115, 116, 97, 110, 116]))) [.ret (.ix (.var 0) (.con (.int 1)))] [], .ifs (.cmp (.eq) (.var 2) (.con (.str [99, 104, 111, 111, 115, 101]))) [.ifs (.call 430 [.call 449 [.ix (.var 0) (.con (.int 1)), .var 1]]) [.ret (.call 449 [.ix (.var 0) (.con (.int 2)), .var 1])] [], .ret (.call 449 [.ix (.var 0) (.con (.int 3)), .var 1])] [], .asg (.var 3) (.call 449 [.ix (.var 0) (.con (.int 1)), .var 1]), .ifs (.cmp (.mem) (.var 2) (.glob 140)) [.asg (.var 4) (.ix (.glob 140) (.var 2)), .ret (.callv 4 [.var 3])] [], .ret (.call 448 [.var 2, .var 3, .call 449 [.ix (.var 0) (.con (.int 2)), .var 1]])]
def d449 : Df := { slots := 5, params := 2, body := b449, keep := false, alone := true, init := false, kw := false, kws := [] }
def b500 : List Z.St := [.ret (.lst true [.bf (.list) false [.var 0], .con (.int 0), .con (.int 0), .con (.int 17)])]
def d500 : Df := { slots := 1, params := 1, body := b500, keep := true, alone := false, init := false, kw := false, kws := [] }
def b501 : List Z.St := [.ifs (.cmp (.gt) (.ix (.var 0) (.con (.int 2))) (.con (.int 0))) [.asg (.var 2) (.op (.mod) (.bf (.int) false [.ix (.var 0) (.con (.int 2))]) (.var 1)), .sub (.var 0) (.con (.int 2)) (.op (.fdiv) (.ix (.var 0) (.con (.int 2))) (.var 1)), .ret (.var 2)] [], .ifs (.cmp (.lt) (.ix (.var 0) (.con (.int 1))) (.bf (.len) false [.ix (.var 0) (.con (.int 0))])) [.asg (.var 3) (.bf (.abs) false [.ix (.ix (.var 0) (.con (.int 0))) (.ix (.var 0) (.con (.int 1)))]), .sub (.var 0) (.con (.int 1)) (.op (.add) (.ix (.var 0) (.con (.int 1))) (.con (.int 1))), .ifs (.cmp (.ge) (.var 3) (.op (.pow) (.con (.int 10)) (.con (.int 18)))) [.sub (.var 0) (.con (.int 2)) (.op (.fdiv) (.var 3) (.var 1)), .ret (.op (.mod) (.bf (.int) false [.var 3]) (.var 1))] [], .sub (.var 0) (.con (.int 3)) (.op (.mod) (.bf (.int) false [.op (.add) (.op (.add) (.op (.mul) (.ix (.var 0) (.con (.int 3))) (.con (.int 48271))) (.var 3)) (.con (.int 11))]) (.con (.int 2147483647)))] [.sub (.var 0) (.con (.int 3)) (.op (.mod) (.bf (.int) false [.op (.add) (.op (.mul) (.ix (.var 0) (.con (.int 3))) (.con (.int 48271))) (.con (.int 12345))]) (.con (.int 2147483647)))], .ret (.op (.mod) (.op (.fdiv) (.bf (.int) false [.op (.mod) (.op (.mul) (.ix (.var 0) (.con (.int 3))) (.con (.int 69621))) (.con (.int 2147483629))]) (.con (.int 7))) (.var 1))]
def d501 : Df := { slots := 4, params := 2, body := b501, keep := true, alone := false, init := false, kw := false, kws := [] }
def b507 : List Z.St := [.ifs (.bf (.isinst [2, 3]) false [.var 1]) [.ifs (.or (.cmp (.ne) (.bf (.isinst [2]) false [.var 1]) (.bf (.isinst [2]) false [.var 0])) (.cmp (.ne) (.bf (.isinst [3]) false [.var 1]) (.bf (.isinst [3]) false [.var 0]))) [.ret (.con (.bl false))] [], .ifs (.cmp (.ne) (.bf (.len) false [.var 0]) (.bf (.len) false [.var 1])) [.ret (.con (.bl false))] [], .ret (.bf (.all) false [.lc false (.call 507 [.ix (.var 0) (.var 2), .ix (.var 1) (.var 2)]) (.var 2) [2] (.range) [.bf (.len) false [.var 1]] none])] [], .ifs (.cmp (.is) (.var 1) (.con (.non))) [.ret (.cmp (.is) (.var 0) (.con (.non)))] [], .ifs (.cmp (.ne) (.bf (.isinst [4]) false [.var 1]) (.bf (.isinst [4]) false [.var 0])) [.ret (.con (.bl false))] [], .ifs (.bf (.isinst [1]) false [.var 1]) [.ret (.and (.bf (.isinst [1]) false [.var 0]) (.cmp (.eq) (.var 0) (.var 1)))] [], .ret (.and (.bf (.isinst [0]) false [.var 0]) (.cmp (.eq) (.var 0) (.var 1)))]
def d507 : Df := { slots := 3, params := 2, body := b507, keep := false, alone := true, init := false, kw := false, kws := [] }
def b0 : List Z.St := [.asg (.var 1) (.call 501 [.var 0, .con (.int 7)]), .ifs (.cmp (.eq) (.var 1) (.con (.int 0))) [.ret (.con (.non))] [], .ret (.ite (.cmp (.gt) (.var 1) (.con (.int 4))) (.ix (.lst false [.con (.str [97]), .con (.str [98]), .con (.str [97, 98]), .con (.str [])]) (.op (.add) (.op (.mul) (.con (.int 2)) (.op (.sub) (.var 1) (.con (.int 5)))) (.call 501 [.var 0, .con (.int 2)]))) (.op (.sub) (.var 1) (.con (.int 1))))]
def d0 : Df := { slots := 2, params := 1, body := b0, keep := true, alone := false, init := false, kw := false, kws := [] }
def b531 : List Z.St := [.ifs (.cmp (.is) (.var 0) (.con (.non))) [.ret (.tup [.con (.int 0), .con (.int 0), .con (.str [])])] [], .ifs (.bf (.isinst [1]) false [.var 0]) [.ret (.tup [.con (.int 2), .con (.int 0), .var 0])] [], .ret (.tup [.con (.int 1), .var 0, .con (.str [])])]
def d531 : Df := { slots := 1, params := 1, body := b531, keep := false, alone := true, init := false, kw := false, kws := [] }
def b657 : List Z.St := [.asg (.var 3) (.call 501 [.var 0, .con (.int 12)]), .ifs (.or (.cmp (.eq) (.var 2) (.con (.int 0))) (.cmp (.lt) (.var 3) (.con (.int 5)))) [.ifs (.or (.cmp (.eq) (.var 1) (.con (.int 0))) (.cmp (.eq) (.call 501 [.var 0, .con (.int 3)]) (.con (.int 0)))) [.ret (.tup [.con (.str [99, 111, 110, 115, 116, 97, 110, 116]), .call 0 [.var 0]])] [], .ret (.tup [.con (.str [99, 111, 108, 117, 109, 110]), .call 501 [.var 0, .var 1]])] [], .ifs (.cmp (.lt) (.var 3) (.con (.int 8))) [.asg (.var 4) (.ix (.lst false [.con (.str [110, 101, 103, 97, 116, 101]), .con (.str [110, 111, 116]), .con (.str [109, 105, 115, 115, 105, 110, 103]), .con (.str [108, 101, 110, 103, 116, 104])]) (.call 501 [.var 0, .con (.int 4)])), .ret (.tup [.var 4, .call 657 [.var 0, .var 1, .op (.sub) (.var 2) (.con (.int 1))]])] [], .asg (.var 5) (.call 657 [.var 0, .var 1, .op (.sub) (.var 2) (.con (.int 1))]), .asg (.var 6) (.call 657 [.var 0, .var 1, .op (.sub) (.var 2) (.con (.int 1))]), .ifs (.cmp (.eq) (.var 3) (.con (.int 8))) [.ret (.tup [.con (.str [99, 104, 111, 111, 115, 101]), .call 657 [.var 0, .var 1, .op (.sub) (.var 2) (.con (.int 1))], .var 5, .var 6])] [], .asg (.var 7) (.lst false [.con (.str [97, 100, 100]), .con (.str [115, 117, 98, 116, 114, 97, 99, 116]), .con (.str [109, 117, 108, 116, 105, 112, 108, 121]), .con (.str [100, 105, 118, 105, 100, 101]), .con (.str [114, 101, 109, 97, 105, 110, 100, 101, 114]), .con (.str [108, 101, 115, 115]), .con (.str [101, 113, 117, 97, 108]), .con (.str [97, 110, 100]), .con (.str [111, 114]), .con (.str [115, 116, 97, 114, 116, 115])]), .ret (.tup [.ix (.var 7) (.call 501 [.var 0, .con (.int 10)]), .var 5, .var 6])]
def d657 : Df := { slots := 8, params := 3, body := b657, keep := true, alone := false, init := false, kw := false, kws := [] }
def b658 : List Z.St := [.ret (.ite (.or (.cmp (.is) (.var 0) (.con (.non))) (.bf (.isinst [1]) false [.var 0])) (.con (.non)) (.cmp (.ne) (.var 0) (.con (.int 0))))]
def d658 : Df := { slots := 1, params := 1, body := b658, keep := false, alone := true, init := false, kw := false, kws := [] }
def b532 : List Z.St := [.ret (.ite (.chain (.le) (.le) (.neg (.op (.pow) (.con (.int 10)) (.con (.int 15)))) (.var 0) (.op (.pow) (.con (.int 10)) (.con (.int 15)))) (.var 0) (.con (.non)))]
def d532 : Df := { slots := 1, params := 1, body := b532, keep := false, alone := true, init := false, kw := false, kws := [] }
def b659 : List Z.St := [.ifs (.or (.not (.bf (.isinst [0]) false [.var 1])) (.not (.bf (.isinst [0]) false [.var 2]))) [.ret (.con (.non))] [], .ifs (.cmp (.eq) (.var 0) (.con (.str [97, 100, 100]))) [.ret (.call 532 [.op (.add) (.var 1) (.var 2)])] [], .ifs (.cmp (.eq) (.var 0) (.con (.str [115, 117, 98, 116, 114, 97, 99, 116]))) [.ret (.call 532 [.op (.sub) (.var 1) (.var 2)])] [], .ifs (.cmp (.eq) (.var 0) (.con (.str [109, 117, 108, 116, 105, 112, 108, 121]))) [.ret (.call 532 [.op (.mul) (.var 1) (.var 2)])] [], .ifs (.cmp (.lt) (.var 2) (.con (.int 1))) [.ret (.con (.non))] [], .asg (.var 3) (.op (.fdiv) (.var 1) (.var 2)), .ret (.ite (.cmp (.eq) (.var 0) (.con (.str [100, 105, 118, 105, 100, 101]))) (.var 3) (.op (.sub) (.var 1) (.op (.mul) (.var 2) (.var 3))))]
def d659 : Df := { slots := 4, params := 3, body := b659, keep := false, alone := true, init := false, kw := false, kws := [] }
def b660 : List Z.St := [.asg (.var 3) (.cmp (.eq) (.var 0) (.con (.str [111, 114]))), .asg (.var 4) (.call 658 [.var 1]), .asg (.var 5) (.call 658 [.var 2]), .ifs (.or (.cmp (.eq) (.var 4) (.var 3)) (.cmp (.eq) (.var 5) (.var 3))) [.ret (.bf (.int) false [.var 3])] [], .ret (.ite (.or (.cmp (.is) (.var 4) (.con (.non))) (.cmp (.is) (.var 5) (.con (.non)))) (.con (.non)) (.bf (.int) false [.not (.var 3)]))]
def d660 : Df := { slots := 6, params := 3, body := b660, keep := false, alone := true, init := false, kw := false, kws := [] }
def b661 : List Z.St := [.ifs (.cmp (.eq) (.var 0) (.con (.str [110, 101, 103, 97, 116, 101]))) [.ret (.call 659 [.con (.str [115, 117, 98, 116, 114, 97, 99, 116]), .con (.int 0), .var 1])] [], .ifs (.cmp (.eq) (.var 0) (.con (.str [109, 105, 115, 115, 105, 110, 103]))) [.ret (.bf (.int) false [.cmp (.is) (.var 1) (.con (.non))])] [], .ifs (.cmp (.eq) (.var 0) (.con (.str [108, 101, 110, 103, 116, 104]))) [.ret (.ite (.bf (.isinst [1]) false [.var 1]) (.bf (.len) false [.var 1]) (.con (.non)))] [], .ret (.ite (.cmp (.is) (.call 658 [.var 1]) (.con (.non))) (.con (.non)) (.bf (.int) false [.not (.call 658 [.var 1])]))]
def d661 : Df := { slots := 2, params := 2, body := b661, keep := false, alone := true, init := false, kw := false, kws := [] }
def b662 : List Z.St := [.asg (.var 2) (.ix (.var 0) (.con (.int 0))), .ifs (.cmp (.eq) (.var 2) (.con (.str [99, 111, 108, 117, 109, 110]))) [.ret (.ix (.var 1) (.ix (.var 0) (.con (.int 1))))] [], .ifs (.cmp (.eq) (.var 2) (.con (.str [99, 111, 110, 115, 116, 97, 110, 116]))) [.ret (.ix (.var 0) (.con (.int 1)))] [], .ifs (.cmp (.eq) (.var 2) (.con (.str [99, 104, 111, 111, 115, 101]))) [.ret (.call 662 [.ite (.cmp (.is) (.call 658 [.call 662 [.ix (.var 0) (.con (.int 1)), .var 1]]) (.con (.bl true))) (.ix (.var 0) (.con (.int 2))) (.ix (.var 0) (.con (.int 3))), .var 1])] [], .asg (.var 3) (.call 662 [.ix (.var 0) (.con (.int 1)), .var 1]), .ifs (.cmp (.eq) (.bf (.len) false [.var 0]) (.con (.int 2))) [.ret (.call 661 [.var 2, .var 3])] [], .asg (.var 4) (.call 662 [.ix (.var 0) (.con (.int 2)), .var 1]), .ifs (.cmp (.mem) (.var 2) (.tup [.con (.str [97, 110, 100]), .con (.str [111, 114])])) [.ret (.call 660 [.var 2, .var 3, .var 4])] [], .ifs (.cmp (.eq) (.var 2) (.con (.str [115, 116, 97, 114, 116, 115]))) [.ifs (.or (.not (.bf (.isinst [1]) false [.var 3])) (.not (.bf (.isinst [1]) false [.var 4]))) [.ret (.con (.non))] [], .ret (.bf (.int) false [.cmp (.eq) (.sl (.var 3) none (some (.bf (.len) false [.var 4]))) (.var 4)])] [], .ifs (.cmp (.nmem) (.var 2) (.tup [.con (.str [108, 101, 115, 115]), .con (.str [101, 113, 117, 97, 108])])) [.ret (.call 659 [.var 2, .var 3, .var 4])] [], .ifs (.or (.cmp (.is) (.var 3) (.con (.non))) (.cmp (.is) (.var 4) (.con (.non)))) [.ret (.con (.non))] [], .ret (.bf (.int) false [.ite (.cmp (.eq) (.var 2) (.con (.str [108, 101, 115, 115]))) (.cmp (.lt) (.call 531 [.var 3]) (.call 531 [.var 4])) (.cmp (.eq) (.call 531 [.var 3]) (.call 531 [.var 4]))])]
def d662 : Df := { slots := 5, params := 2, body := b662, keep := false, alone := true, init := false, kw := false, kws := [] }
def b1 : List Z.St := [.asg (.var 2) (.lst true []), .fors (.var 3) (.seq) [.var 1] [.ifs (.and (.bf (.isinst [0]) false [.var 3]) (.call 501 [.var 0, .con (.int 2)])) [.asg (.var 3) (.op (.mul) (.op (.sub) (.op (.pow) (.con (.int 10)) (.con (.int 15))) (.var 3)) (.op (.sub) (.con (.int 1)) (.op (.mul) (.con (.int 2)) (.call 501 [.var 0, .con (.int 2)]))))] [], .expr (.bm (.append) (.var 2) [.var 3])], .ret (.bf (.tuple) false [.var 2])]
def d1 : Df := { slots := 4, params := 2, body := b1, keep := true, alone := false, init := false, kw := false, kws := [] }
def b2 : List Z.St := [.asg (.var 1) (.call 500 [.var 0]), .asg (.var 2) (.call 501 [.var 1, .con (.int 4)]), .asg (.var 3) (.bf (.tuple) false [.lc false (.call 0 [.var 1]) (.var 4) [4] (.range) [.var 2] none]), .ifs (.cmp (.eq) (.call 501 [.var 1, .con (.int 4)]) (.con (.int 0))) [.asg (.var 3) (.call 1 [.var 1, .var 3])] [], .fors (.var 4) (.range) [.con (.int 3)] [.asg (.var 5) (.call 657 [.var 1, .var 2, .op (.add) (.con (.int 1)) (.call 501 [.var 1, .con (.int 4)])]), .asg (.var 6) (.rep [.var 5, .var 3]), .asg (.var 7) (.call 662 [.var 5, .var 3]), .ifs (.or (.not (.call 507 [.call 449 [.var 5, .var 3], .var 7])) (.cmp (.ne) (.rep [.var 5, .var 3]) (.var 6))) [.ret (.con (.bl false))] [], .ifs (.not (.call 507 [.call 430 [.var 7], .cmp (.is) (.call 658 [.var 7]) (.con (.bl true))])) [.ret (.con (.bl false))] []], .ret (.con (.bl true))]
def d2 : Df := { slots := 8, params := 1, body := b2, keep := false, alone := true, init := false, kw := false, kws := [] }
def cons : List (Nat × D) := [(139, .int (1000000000000000)), (140, .wd [[110, 101, 103, 97, 116, 101], [110, 111, 116], [109, 105, 115, 115, 105, 110, 103], [108, 101, 110, 103, 116, 104]] [.fn 434, .fn 435, .fn 436, .fn 437]), (141, .wd [[97, 100, 100], [115, 117, 98, 116, 114, 97, 99, 116], [109, 117, 108, 116, 105, 112, 108, 121], [100, 105, 118, 105, 100, 101], [114, 101, 109, 97, 105, 110, 100, 101, 114]] [.fn 438, .fn 439, .fn 440, .fn 441, .fn 442]), (142, .wd [[108, 101, 115, 115], [101, 113, 117, 97, 108], [97, 110, 100], [111, 114], [115, 116, 97, 114, 116, 115]] [.fn 443, .fn 444, .fn 445, .fn 446, .fn 447])]
def defs : List (Nat × Df) := [(426, d426), (428, d428), (429, d429), (430, d430), (431, d431), (432, d432), (433, d433), (434, d434), (435, d435), (436, d436), (437, d437), (438, d438), (439, d439), (440, d440), (441, d441), (442, d442), (443, d443), (444, d444), (445, d445), (446, d446), (447, d447), (448, d448), (449, d449), (500, d500), (501, d501), (507, d507), (0, d0), (531, d531), (657, d657), (658, d658), (532, d532), (659, d659), (660, d660), (661, d661), (662, d662), (1, d1), (2, d2)]
def G : Gm := { con := fun n => (List.lookup n cons).getD .non, defs := fun n => List.lookup n defs, fuel := 1000000000 }
theorem k426 : cSs c426 60 (defBody (top 2)) = some b426 := by rfl
theorem s426 : FnScope c426.N ["value"] (defScope (top 2)) := ⟨rfl, rfl, rfl, by decide +kernel, rfl, by decide +kernel, by decide +kernel⟩
theorem k428 : cSs c428 60 (defBody (top 3)) = some b428 := by rfl
theorem s428 : FnScope c428.N ["number"] (defScope (top 3)) := ⟨rfl, rfl, rfl, by decide +kernel, rfl, by decide +kernel, by decide +kernel⟩
theorem k429 : cSs c429 60 (defBody (top 4)) = some b429 := by rfl
theorem s429 : FnScope c429.N ["value"] (defScope (top 4)) := ⟨rfl, rfl, rfl, by decide +kernel, rfl, by decide +kernel, by decide +kernel⟩
theorem k430 : cSs c430 60 (defBody (top 5)) = some b430 := by rfl
theorem s430 : FnScope c430.N ["value"] (defScope (top 5)) := ⟨rfl, rfl, rfl, by decide +kernel, rfl, by decide +kernel, by decide +kernel⟩
theorem k431 : cSs c431 60 (defBody (top 6)) = some b431 := by rfl
theorem s431 : FnScope c431.N ["known"] (defScope (top 6)) := ⟨rfl, rfl, rfl, by decide +kernel, rfl, by decide +kernel, by decide +kernel⟩
theorem k432 : cSs c432 60 (defBody (top 7)) = some b432 := by rfl
theorem s432 : FnScope c432.N ["first", "second"] (defScope (top 7)) := ⟨rfl, rfl, rfl, by decide +kernel, rfl, by decide +kernel, by decide +kernel⟩
theorem k433 : cSs c433 60 (defBody (top 8)) = some b433 := by rfl
theorem s433 : FnScope c433.N ["first", "second"] (defScope (top 8)) := ⟨rfl, rfl, rfl, by decide +kernel, rfl, by decide +kernel, by decide +kernel⟩
theorem k434 : cSs c434 60 (defBody (top 9)) = some b434 := by rfl
theorem s434 : FnScope c434.N ["value"] (defScope (top 9)) := ⟨rfl, rfl, rfl, by decide +kernel, rfl, by decide +kernel, by decide +kernel⟩
theorem k435 : cSs c435 60 (defBody (top 10)) = some b435 := by rfl
theorem s435 : FnScope c435.N ["value"] (defScope (top 10)) := ⟨rfl, rfl, rfl, by decide +kernel, rfl, by decide +kernel, by decide +kernel⟩
theorem k436 : cSs c436 60 (defBody (top 11)) = some b436 := by rfl
theorem s436 : FnScope c436.N ["value"] (defScope (top 11)) := ⟨rfl, rfl, rfl, by decide +kernel, rfl, by decide +kernel, by decide +kernel⟩
theorem k437 : cSs c437 60 (defBody (top 12)) = some b437 := by rfl
theorem s437 : FnScope c437.N ["value"] (defScope (top 12)) := ⟨rfl, rfl, rfl, by decide +kernel, rfl, by decide +kernel, by decide +kernel⟩
theorem k438 : cSs c438 60 (defBody (top 13)) = some b438 := by rfl
theorem s438 : FnScope c438.N ["first", "second"] (defScope (top 13)) := ⟨rfl, rfl, rfl, by decide +kernel, rfl, by decide +kernel, by decide +kernel⟩
theorem k439 : cSs c439 60 (defBody (top 14)) = some b439 := by rfl
theorem s439 : FnScope c439.N ["first", "second"] (defScope (top 14)) := ⟨rfl, rfl, rfl, by decide +kernel, rfl, by decide +kernel, by decide +kernel⟩
theorem k440 : cSs c440 60 (defBody (top 15)) = some b440 := by rfl
theorem s440 : FnScope c440.N ["first", "second"] (defScope (top 15)) := ⟨rfl, rfl, rfl, by decide +kernel, rfl, by decide +kernel, by decide +kernel⟩
theorem k441 : cSs c441 60 (defBody (top 16)) = some b441 := by rfl
theorem s441 : FnScope c441.N ["first", "second"] (defScope (top 16)) := ⟨rfl, rfl, rfl, by decide +kernel, rfl, by decide +kernel, by decide +kernel⟩
theorem k442 : cSs c442 60 (defBody (top 17)) = some b442 := by rfl
theorem s442 : FnScope c442.N ["first", "second"] (defScope (top 17)) := ⟨rfl, rfl, rfl, by decide +kernel, rfl, by decide +kernel, by decide +kernel⟩
theorem k443 : cSs c443 60 (defBody (top 18)) = some b443 := by rfl
theorem s443 : FnScope c443.N ["first", "second"] (defScope (top 18)) := ⟨rfl, rfl, rfl, by decide +kernel, rfl, by decide +kernel, by decide +kernel⟩
theorem k444 : cSs c444 60 (defBody (top 19)) = some b444 := by rfl
theorem s444 : FnScope c444.N ["first", "second"] (defScope (top 19)) := ⟨rfl, rfl, rfl, by decide +kernel, rfl, by decide +kernel, by decide +kernel⟩
theorem k445 : cSs c445 60 (defBody (top 20)) = some b445 := by rfl
theorem s445 : FnScope c445.N ["first", "second"] (defScope (top 20)) := ⟨rfl, rfl, rfl, by decide +kernel, rfl, by decide +kernel, by decide +kernel⟩
theorem k446 : cSs c446 60 (defBody (top 21)) = some b446 := by rfl
theorem s446 : FnScope c446.N ["first", "second"] (defScope (top 21)) := ⟨rfl, rfl, rfl, by decide +kernel, rfl, by decide +kernel, by decide +kernel⟩
theorem k447 : cSs c447 60 (defBody (top 22)) = some b447 := by rfl
theorem s447 : FnScope c447.N ["first", "second"] (defScope (top 22)) := ⟨rfl, rfl, rfl, by decide +kernel, rfl, by decide +kernel, by decide +kernel⟩
theorem k448 : cSs c448 60 (defBody (top 26)) = some b448 := by rfl
theorem s448 : FnScope c448.N ["form", "first", "second"] (defScope (top 26)) := ⟨rfl, rfl, rfl, by decide +kernel, rfl, by decide +kernel, by decide +kernel⟩
theorem k449 : cSs c449 60 (defBody (top 27)) = some b449 := by rfl
theorem s449 : FnScope c449.N ["expression", "row"] (defScope (top 27)) := ⟨rfl, rfl, rfl, by decide +kernel, rfl, by decide +kernel, by decide +kernel⟩
theorem k500 : cSs c500 60 (defBody (top 29)) = some b500 := by rfl
theorem s500 : FnScope c500.N ["script"] (defScope (top 29)) := ⟨rfl, rfl, rfl, by decide +kernel, rfl, by decide +kernel, by decide +kernel⟩
theorem k501 : cSs c501 60 (defBody (top 30)) = some b501 := by rfl
theorem s501 : FnScope c501.N ["draw", "many"] (defScope (top 30)) := ⟨rfl, rfl, rfl, by decide +kernel, rfl, by decide +kernel, by decide +kernel⟩
theorem k507 : cSs c507 60 (defBody (top 31)) = some b507 := by rfl
theorem s507 : FnScope c507.N ["actual", "due"] (defScope (top 31)) := ⟨rfl, rfl, rfl, by decide +kernel, rfl, by decide +kernel, by decide +kernel⟩
theorem k0 : cSs c0 60 (defBody (top 32)) = some b0 := by rfl
theorem s0 : FnScope c0.N ["draw"] (defScope (top 32)) := ⟨rfl, rfl, rfl, by decide +kernel, rfl, by decide +kernel, by decide +kernel⟩
theorem k531 : cSs c531 60 (defBody (top 33)) = some b531 := by rfl
theorem s531 : FnScope c531.N ["value"] (defScope (top 33)) := ⟨rfl, rfl, rfl, by decide +kernel, rfl, by decide +kernel, by decide +kernel⟩
theorem k657 : cSs c657 60 (defBody (top 37)) = some b657 := by rfl
theorem s657 : FnScope c657.N ["draw", "width", "depth"] (defScope (top 37)) := ⟨rfl, rfl, rfl, by decide +kernel, rfl, by decide +kernel, by decide +kernel⟩
theorem k658 : cSs c658 60 (defBody (top 38)) = some b658 := by rfl
theorem s658 : FnScope c658.N ["value"] (defScope (top 38)) := ⟨rfl, rfl, rfl, by decide +kernel, rfl, by decide +kernel, by decide +kernel⟩
theorem k532 : cSs c532 60 (defBody (top 39)) = some b532 := by rfl
theorem s532 : FnScope c532.N ["number"] (defScope (top 39)) := ⟨rfl, rfl, rfl, by decide +kernel, rfl, by decide +kernel, by decide +kernel⟩
theorem k659 : cSs c659 60 (defBody (top 40)) = some b659 := by rfl
theorem s659 : FnScope c659.N ["word", "first", "second"] (defScope (top 40)) := ⟨rfl, rfl, rfl, by decide +kernel, rfl, by decide +kernel, by decide +kernel⟩
theorem k660 : cSs c660 60 (defBody (top 41)) = some b660 := by rfl
theorem s660 : FnScope c660.N ["word", "first", "second"] (defScope (top 41)) := ⟨rfl, rfl, rfl, by decide +kernel, rfl, by decide +kernel, by decide +kernel⟩
theorem k661 : cSs c661 60 (defBody (top 42)) = some b661 := by rfl
theorem s661 : FnScope c661.N ["word", "value"] (defScope (top 42)) := ⟨rfl, rfl, rfl, by decide +kernel, rfl, by decide +kernel, by decide +kernel⟩
theorem k662 : cSs c662 60 (defBody (top 43)) = some b662 := by rfl
theorem s662 : FnScope c662.N ["tree", "row"] (defScope (top 43)) := ⟨rfl, rfl, rfl, by decide +kernel, rfl, by decide +kernel, by decide +kernel⟩
theorem k1 : cSs c1 60 (defBody (top 47)) = some b1 := by rfl
theorem s1 : FnScope c1.N ["draw", "row"] (defScope (top 47)) := ⟨rfl, rfl, rfl, by decide +kernel, rfl, by decide +kernel, by decide +kernel⟩
theorem k2 : cSs c2 60 (defBody (top 48)) = some b2 := by rfl
theorem s2 : FnScope c2.N ["script"] (defScope (top 48)) := ⟨rfl, rfl, rfl, by decide +kernel, rfl, by decide +kernel, by decide +kernel⟩
theorem all_mk {l : PySem.W.OpenLaw} {w : World} {K : PySem.W.Frag} {h : Heap} {mg : Str → Option Value} {fa : Addr} (X : K.In h) (GN : h.Ns mainGlobals mg) (hfa : mg "law" = some (.ref fa))
    {f426 f428 f429 f430 f431 f432 f433 f434 f435 f436 f437 f438 f439 f440 f441 f442 f443 f444 f445 f446 f447 f448 f449 f500 f501 f507 f0 f531 f657 f658 f532 f659 f660 f661 f662 f1 f2  : Addr} {od426 an426 od428 an428 od429 an429 od430 an430 od431 an431 od432 an432 od433 an433 od434 an434 od435 an435 od436 an436 od437 an437 od438 an438 od439 an439 od440 an440 od441 an441 od442 an442 od443 an443 od444 an444 od445 an445 od446 an446 od447 an447 od448 an448 od449 an449 od500 an500 od501 an501 od507 an507 od0 an0 od531 an531 od657 an657 od658 an658 od532 an532 od659 an659 od660 an660 od661 an661 od662 an662 od1 an1 od2 an2 : Option Addr} {sl426 sl428 sl429 sl430 sl431 sl432 sl433 sl434 sl435 sl436 sl437 sl438 sl439 sl440 sl441 sl442 sl443 sl444 sl445 sl446 sl447 sl448 sl449 sl500 sl501 sl507 sl0 sl531 sl657 sl658 sl532 sl659 sl660 sl661 sl662 sl1 sl2 : Array (Option Value)} {oc426 dc426 pm426 cd426 ct426 kV426 oc428 dc428 pm428 cd428 ct428 kV428 oc429 dc429 pm429 cd429 ct429 kV429 oc430 dc430 pm430 cd430 ct430 kV430 oc431 dc431 pm431 cd431 ct431 kV431 oc432 dc432 pm432 cd432 ct432 kV432 oc433 dc433 pm433 cd433 ct433 kV433 oc434 dc434 pm434 cd434 ct434 kV434 oc435 dc435 pm435 cd435 ct435 kV435 oc436 dc436 pm436 cd436 ct436 kV436 oc437 dc437 pm437 cd437 ct437 kV437 oc438 dc438 pm438 cd438 ct438 kV438 oc439 dc439 pm439 cd439 ct439 kV439 oc440 dc440 pm440 cd440 ct440 kV440 oc441 dc441 pm441 cd441 ct441 kV441 oc442 dc442 pm442 cd442 ct442 kV442 oc443 dc443 pm443 cd443 ct443 kV443 oc444 dc444 pm444 cd444 ct444 kV444 oc445 dc445 pm445 cd445 ct445 kV445 oc446 dc446 pm446 cd446 ct446 kV446 oc447 dc447 pm447 cd447 ct447 kV447 oc448 dc448 pm448 cd448 ct448 kV448 oc449 dc449 pm449 cd449 ct449 kV449 oc500 dc500 pm500 cd500 ct500 kV500 oc501 dc501 pm501 cd501 ct501 kV501 oc507 dc507 pm507 cd507 ct507 kV507 oc0 dc0 pm0 cd0 ct0 kV0 oc531 dc531 pm531 cd531 ct531 kV531 oc657 dc657 pm657 cd657 ct657 kV657 oc658 dc658 pm658 cd658 ct658 kV658 oc532 dc532 pm532 cd532 ct532 kV532 oc659 dc659 pm659 cd659 ct659 kV659 oc660 dc660 pm660 cd660 ct660 kV660 oc661 dc661 pm661 cd661 ct661 kV661 oc662 dc662 pm662 cd662 ct662 kV662 oc1 dc1 pm1 cd1 ct1 kV1 oc2 dc2 pm2 cd2 ct2 kV2 : Value}
    (a426 : PySem.W.nsIn K mainGlobals "value_key" = some (some (.ref f426)))
    (l426 : K.lookup f426 = some ⟨oc426, od426, .func (PySem.W.fnOf "value_key" "value_key" (defArgs (top 2)) (defBody (top 2)) (defScope (top 2)) .none kV426 dc426 pm426 an426 cd426 ct426), sl426⟩) (e426 : PySem.W.codeIn K cd426 "value_key" = true) (p426 : PySem.W.keepIn K (.ref f426) = true)
    (a428 : PySem.W.nsIn K mainGlobals "bounded" = some (some (.ref f428)))
    (l428 : K.lookup f428 = some ⟨oc428, od428, .func (PySem.W.fnOf "bounded" "bounded" (defArgs (top 3)) (defBody (top 3)) (defScope (top 3)) .none kV428 dc428 pm428 an428 cd428 ct428), sl428⟩) (e428 : PySem.W.codeIn K cd428 "bounded" = true) (p428 : PySem.W.keepIn K (.ref f428) = true)
    (a429 : PySem.W.nsIn K mainGlobals "truth" = some (some (.ref f429)))
    (l429 : K.lookup f429 = some ⟨oc429, od429, .func (PySem.W.fnOf "truth" "truth" (defArgs (top 4)) (defBody (top 4)) (defScope (top 4)) .none kV429 dc429 pm429 an429 cd429 ct429), sl429⟩) (e429 : PySem.W.codeIn K cd429 "truth" = true) (p429 : PySem.W.keepIn K (.ref f429) = true)
    (a430 : PySem.W.nsIn K mainGlobals "is_true" = some (some (.ref f430)))
    (l430 : K.lookup f430 = some ⟨oc430, od430, .func (PySem.W.fnOf "is_true" "is_true" (defArgs (top 5)) (defBody (top 5)) (defScope (top 5)) .none kV430 dc430 pm430 an430 cd430 ct430), sl430⟩) (e430 : PySem.W.codeIn K cd430 "is_true" = true) (p430 : PySem.W.keepIn K (.ref f430) = true)
    (a431 : PySem.W.nsIn K mainGlobals "from_truth" = some (some (.ref f431)))
    (l431 : K.lookup f431 = some ⟨oc431, od431, .func (PySem.W.fnOf "from_truth" "from_truth" (defArgs (top 6)) (defBody (top 6)) (defScope (top 6)) .none kV431 dc431 pm431 an431 cd431 ct431), sl431⟩) (e431 : PySem.W.codeIn K cd431 "from_truth" = true) (p431 : PySem.W.keepIn K (.ref f431) = true)
    (a432 : PySem.W.nsIn K mainGlobals "both_true" = some (some (.ref f432)))
    (l432 : K.lookup f432 = some ⟨oc432, od432, .func (PySem.W.fnOf "both_true" "both_true" (defArgs (top 7)) (defBody (top 7)) (defScope (top 7)) .none kV432 dc432 pm432 an432 cd432 ct432), sl432⟩) (e432 : PySem.W.codeIn K cd432 "both_true" = true) (p432 : PySem.W.keepIn K (.ref f432) = true)
    (a433 : PySem.W.nsIn K mainGlobals "either_true" = some (some (.ref f433)))
    (l433 : K.lookup f433 = some ⟨oc433, od433, .func (PySem.W.fnOf "either_true" "either_true" (defArgs (top 8)) (defBody (top 8)) (defScope (top 8)) .none kV433 dc433 pm433 an433 cd433 ct433), sl433⟩) (e433 : PySem.W.codeIn K cd433 "either_true" = true) (p433 : PySem.W.keepIn K (.ref f433) = true)
    (a434 : PySem.W.nsIn K mainGlobals "negate" = some (some (.ref f434)))
    (l434 : K.lookup f434 = some ⟨oc434, od434, .func (PySem.W.fnOf "negate" "negate" (defArgs (top 9)) (defBody (top 9)) (defScope (top 9)) .none kV434 dc434 pm434 an434 cd434 ct434), sl434⟩) (e434 : PySem.W.codeIn K cd434 "negate" = true) (p434 : PySem.W.keepIn K (.ref f434) = true)
    (a435 : PySem.W.nsIn K mainGlobals "is_false" = some (some (.ref f435)))
    (l435 : K.lookup f435 = some ⟨oc435, od435, .func (PySem.W.fnOf "is_false" "is_false" (defArgs (top 10)) (defBody (top 10)) (defScope (top 10)) .none kV435 dc435 pm435 an435 cd435 ct435), sl435⟩) (e435 : PySem.W.codeIn K cd435 "is_false" = true) (p435 : PySem.W.keepIn K (.ref f435) = true)
    (a436 : PySem.W.nsIn K mainGlobals "is_missing" = some (some (.ref f436)))
    (l436 : K.lookup f436 = some ⟨oc436, od436, .func (PySem.W.fnOf "is_missing" "is_missing" (defArgs (top 11)) (defBody (top 11)) (defScope (top 11)) .none kV436 dc436 pm436 an436 cd436 ct436), sl436⟩) (e436 : PySem.W.codeIn K cd436 "is_missing" = true) (p436 : PySem.W.keepIn K (.ref f436) = true)
    (a437 : PySem.W.nsIn K mainGlobals "length" = some (some (.ref f437)))
    (l437 : K.lookup f437 = some ⟨oc437, od437, .func (PySem.W.fnOf "length" "length" (defArgs (top 12)) (defBody (top 12)) (defScope (top 12)) .none kV437 dc437 pm437 an437 cd437 ct437), sl437⟩) (e437 : PySem.W.codeIn K cd437 "length" = true) (p437 : PySem.W.keepIn K (.ref f437) = true)
    (a438 : PySem.W.nsIn K mainGlobals "add" = some (some (.ref f438)))
    (l438 : K.lookup f438 = some ⟨oc438, od438, .func (PySem.W.fnOf "add" "add" (defArgs (top 13)) (defBody (top 13)) (defScope (top 13)) .none kV438 dc438 pm438 an438 cd438 ct438), sl438⟩) (e438 : PySem.W.codeIn K cd438 "add" = true) (p438 : PySem.W.keepIn K (.ref f438) = true)
    (a439 : PySem.W.nsIn K mainGlobals "subtract" = some (some (.ref f439)))
    (l439 : K.lookup f439 = some ⟨oc439, od439, .func (PySem.W.fnOf "subtract" "subtract" (defArgs (top 14)) (defBody (top 14)) (defScope (top 14)) .none kV439 dc439 pm439 an439 cd439 ct439), sl439⟩) (e439 : PySem.W.codeIn K cd439 "subtract" = true) (p439 : PySem.W.keepIn K (.ref f439) = true)
    (a440 : PySem.W.nsIn K mainGlobals "multiply" = some (some (.ref f440)))
    (l440 : K.lookup f440 = some ⟨oc440, od440, .func (PySem.W.fnOf "multiply" "multiply" (defArgs (top 15)) (defBody (top 15)) (defScope (top 15)) .none kV440 dc440 pm440 an440 cd440 ct440), sl440⟩) (e440 : PySem.W.codeIn K cd440 "multiply" = true) (p440 : PySem.W.keepIn K (.ref f440) = true)
    (a441 : PySem.W.nsIn K mainGlobals "divide" = some (some (.ref f441)))
    (l441 : K.lookup f441 = some ⟨oc441, od441, .func (PySem.W.fnOf "divide" "divide" (defArgs (top 16)) (defBody (top 16)) (defScope (top 16)) .none kV441 dc441 pm441 an441 cd441 ct441), sl441⟩) (e441 : PySem.W.codeIn K cd441 "divide" = true) (p441 : PySem.W.keepIn K (.ref f441) = true)
    (a442 : PySem.W.nsIn K mainGlobals "remainder" = some (some (.ref f442)))
    (l442 : K.lookup f442 = some ⟨oc442, od442, .func (PySem.W.fnOf "remainder" "remainder" (defArgs (top 17)) (defBody (top 17)) (defScope (top 17)) .none kV442 dc442 pm442 an442 cd442 ct442), sl442⟩) (e442 : PySem.W.codeIn K cd442 "remainder" = true) (p442 : PySem.W.keepIn K (.ref f442) = true)
    (a443 : PySem.W.nsIn K mainGlobals "is_less" = some (some (.ref f443)))
    (l443 : K.lookup f443 = some ⟨oc443, od443, .func (PySem.W.fnOf "is_less" "is_less" (defArgs (top 18)) (defBody (top 18)) (defScope (top 18)) .none kV443 dc443 pm443 an443 cd443 ct443), sl443⟩) (e443 : PySem.W.codeIn K cd443 "is_less" = true) (p443 : PySem.W.keepIn K (.ref f443) = true)
    (a444 : PySem.W.nsIn K mainGlobals "is_equal" = some (some (.ref f444)))
    (l444 : K.lookup f444 = some ⟨oc444, od444, .func (PySem.W.fnOf "is_equal" "is_equal" (defArgs (top 19)) (defBody (top 19)) (defScope (top 19)) .none kV444 dc444 pm444 an444 cd444 ct444), sl444⟩) (e444 : PySem.W.codeIn K cd444 "is_equal" = true) (p444 : PySem.W.keepIn K (.ref f444) = true)
    (a445 : PySem.W.nsIn K mainGlobals "conjunction" = some (some (.ref f445)))
    (l445 : K.lookup f445 = some ⟨oc445, od445, .func (PySem.W.fnOf "conjunction" "conjunction" (defArgs (top 20)) (defBody (top 20)) (defScope (top 20)) .none kV445 dc445 pm445 an445 cd445 ct445), sl445⟩) (e445 : PySem.W.codeIn K cd445 "conjunction" = true) (p445 : PySem.W.keepIn K (.ref f445) = true)
    (a446 : PySem.W.nsIn K mainGlobals "disjunction" = some (some (.ref f446)))
    (l446 : K.lookup f446 = some ⟨oc446, od446, .func (PySem.W.fnOf "disjunction" "disjunction" (defArgs (top 21)) (defBody (top 21)) (defScope (top 21)) .none kV446 dc446 pm446 an446 cd446 ct446), sl446⟩) (e446 : PySem.W.codeIn K cd446 "disjunction" = true) (p446 : PySem.W.keepIn K (.ref f446) = true)
    (a447 : PySem.W.nsIn K mainGlobals "starts" = some (some (.ref f447)))
    (l447 : K.lookup f447 = some ⟨oc447, od447, .func (PySem.W.fnOf "starts" "starts" (defArgs (top 22)) (defBody (top 22)) (defScope (top 22)) .none kV447 dc447 pm447 an447 cd447 ct447), sl447⟩) (e447 : PySem.W.codeIn K cd447 "starts" = true) (p447 : PySem.W.keepIn K (.ref f447) = true)
    (a448 : PySem.W.nsIn K mainGlobals "apply_two" = some (some (.ref f448)))
    (l448 : K.lookup f448 = some ⟨oc448, od448, .func (PySem.W.fnOf "apply_two" "apply_two" (defArgs (top 26)) (defBody (top 26)) (defScope (top 26)) .none kV448 dc448 pm448 an448 cd448 ct448), sl448⟩) (e448 : PySem.W.codeIn K cd448 "apply_two" = true) (p448 : PySem.W.keepIn K (.ref f448) = true)
    (a449 : PySem.W.nsIn K mainGlobals "evaluate" = some (some (.ref f449)))
    (l449 : K.lookup f449 = some ⟨oc449, od449, .func (PySem.W.fnOf "evaluate" "evaluate" (defArgs (top 27)) (defBody (top 27)) (defScope (top 27)) .none kV449 dc449 pm449 an449 cd449 ct449), sl449⟩) (e449 : PySem.W.codeIn K cd449 "evaluate" = true) (p449 : PySem.W.keepIn K (.ref f449) = true)
    (a500 : PySem.W.nsIn K mainGlobals "_law_draw" = some (some (.ref f500)))
    (l500 : K.lookup f500 = some ⟨oc500, od500, .func (PySem.W.fnOf "_law_draw" "_law_draw" (defArgs (top 29)) (defBody (top 29)) (defScope (top 29)) .none kV500 dc500 pm500 an500 cd500 ct500), sl500⟩) (e500 : PySem.W.codeIn K cd500 "_law_draw" = true) (p500 : PySem.W.keepIn K (.ref f500) = true)
    (a501 : PySem.W.nsIn K mainGlobals "_law_next" = some (some (.ref f501)))
    (l501 : K.lookup f501 = some ⟨oc501, od501, .func (PySem.W.fnOf "_law_next" "_law_next" (defArgs (top 30)) (defBody (top 30)) (defScope (top 30)) .none kV501 dc501 pm501 an501 cd501 ct501), sl501⟩) (e501 : PySem.W.codeIn K cd501 "_law_next" = true) (p501 : PySem.W.keepIn K (.ref f501) = true)
    (a507 : PySem.W.nsIn K mainGlobals "_law_same" = some (some (.ref f507)))
    (l507 : K.lookup f507 = some ⟨oc507, od507, .func (PySem.W.fnOf "_law_same" "_law_same" (defArgs (top 31)) (defBody (top 31)) (defScope (top 31)) .none kV507 dc507 pm507 an507 cd507 ct507), sl507⟩) (e507 : PySem.W.codeIn K cd507 "_law_same" = true) (p507 : PySem.W.keepIn K (.ref f507) = true)
    (a0 : PySem.W.nsIn K mainGlobals "_law_cell" = some (some (.ref f0)))
    (l0 : K.lookup f0 = some ⟨oc0, od0, .func (PySem.W.fnOf "_law_cell" "_law_cell" (defArgs (top 32)) (defBody (top 32)) (defScope (top 32)) .none kV0 dc0 pm0 an0 cd0 ct0), sl0⟩) (e0 : PySem.W.codeIn K cd0 "_law_cell" = true) (p0 : PySem.W.keepIn K (.ref f0) = true)
    (a531 : PySem.W.nsIn K mainGlobals "_law_key" = some (some (.ref f531)))
    (l531 : K.lookup f531 = some ⟨oc531, od531, .func (PySem.W.fnOf "_law_key" "_law_key" (defArgs (top 33)) (defBody (top 33)) (defScope (top 33)) .none kV531 dc531 pm531 an531 cd531 ct531), sl531⟩) (e531 : PySem.W.codeIn K cd531 "_law_key" = true) (p531 : PySem.W.keepIn K (.ref f531) = true)
    (a657 : PySem.W.nsIn K mainGlobals "_law_expression" = some (some (.ref f657)))
    (l657 : K.lookup f657 = some ⟨oc657, od657, .func (PySem.W.fnOf "_law_expression" "_law_expression" (defArgs (top 37)) (defBody (top 37)) (defScope (top 37)) .none kV657 dc657 pm657 an657 cd657 ct657), sl657⟩) (e657 : PySem.W.codeIn K cd657 "_law_expression" = true) (p657 : PySem.W.keepIn K (.ref f657) = true)
    (a658 : PySem.W.nsIn K mainGlobals "_law_known" = some (some (.ref f658)))
    (l658 : K.lookup f658 = some ⟨oc658, od658, .func (PySem.W.fnOf "_law_known" "_law_known" (defArgs (top 38)) (defBody (top 38)) (defScope (top 38)) .none kV658 dc658 pm658 an658 cd658 ct658), sl658⟩) (e658 : PySem.W.codeIn K cd658 "_law_known" = true) (p658 : PySem.W.keepIn K (.ref f658) = true)
    (a532 : PySem.W.nsIn K mainGlobals "_law_bounded" = some (some (.ref f532)))
    (l532 : K.lookup f532 = some ⟨oc532, od532, .func (PySem.W.fnOf "_law_bounded" "_law_bounded" (defArgs (top 39)) (defBody (top 39)) (defScope (top 39)) .none kV532 dc532 pm532 an532 cd532 ct532), sl532⟩) (e532 : PySem.W.codeIn K cd532 "_law_bounded" = true) (p532 : PySem.W.keepIn K (.ref f532) = true)
    (a659 : PySem.W.nsIn K mainGlobals "_law_arithmetic" = some (some (.ref f659)))
    (l659 : K.lookup f659 = some ⟨oc659, od659, .func (PySem.W.fnOf "_law_arithmetic" "_law_arithmetic" (defArgs (top 40)) (defBody (top 40)) (defScope (top 40)) .none kV659 dc659 pm659 an659 cd659 ct659), sl659⟩) (e659 : PySem.W.codeIn K cd659 "_law_arithmetic" = true) (p659 : PySem.W.keepIn K (.ref f659) = true)
    (a660 : PySem.W.nsIn K mainGlobals "_law_logic" = some (some (.ref f660)))
    (l660 : K.lookup f660 = some ⟨oc660, od660, .func (PySem.W.fnOf "_law_logic" "_law_logic" (defArgs (top 41)) (defBody (top 41)) (defScope (top 41)) .none kV660 dc660 pm660 an660 cd660 ct660), sl660⟩) (e660 : PySem.W.codeIn K cd660 "_law_logic" = true) (p660 : PySem.W.keepIn K (.ref f660) = true)
    (a661 : PySem.W.nsIn K mainGlobals "_law_single" = some (some (.ref f661)))
    (l661 : K.lookup f661 = some ⟨oc661, od661, .func (PySem.W.fnOf "_law_single" "_law_single" (defArgs (top 42)) (defBody (top 42)) (defScope (top 42)) .none kV661 dc661 pm661 an661 cd661 ct661), sl661⟩) (e661 : PySem.W.codeIn K cd661 "_law_single" = true) (p661 : PySem.W.keepIn K (.ref f661) = true)
    (a662 : PySem.W.nsIn K mainGlobals "_law_due" = some (some (.ref f662)))
    (l662 : K.lookup f662 = some ⟨oc662, od662, .func (PySem.W.fnOf "_law_due" "_law_due" (defArgs (top 43)) (defBody (top 43)) (defScope (top 43)) .none kV662 dc662 pm662 an662 cd662 ct662), sl662⟩) (e662 : PySem.W.codeIn K cd662 "_law_due" = true) (p662 : PySem.W.keepIn K (.ref f662) = true)
    (a1 : PySem.W.nsIn K mainGlobals "_law_great" = some (some (.ref f1)))
    (l1 : K.lookup f1 = some ⟨oc1, od1, .func (PySem.W.fnOf "_law_great" "_law_great" (defArgs (top 47)) (defBody (top 47)) (defScope (top 47)) .none kV1 dc1 pm1 an1 cd1 ct1), sl1⟩) (e1 : PySem.W.codeIn K cd1 "_law_great" = true) (p1 : PySem.W.keepIn K (.ref f1) = true)
    (a2 : PySem.W.nsIn K mainGlobals "law" = some (some (.ref f2)))
    (l2 : K.lookup f2 = some ⟨oc2, od2, .func (PySem.W.fnOf "law" "law" (defArgs (top 48)) (defBody (top 48)) (defScope (top 48)) .none kV2 dc2 pm2 an2 cd2 ct2), sl2⟩) (e2 : PySem.W.codeIn K cd2 "law" = true) (p2 : PySem.W.keepIn K (.ref f2) = true)
    {tQ139 : Tok} (qQ139 : PySem.W.nsIn K mainGlobals "GREATEST" = some (some (.int (1000000000000000) tQ139)))
    {aQ140 : Addr} {esQ140 : Array DictEntry} {nQ140 : Nat} {tQ140_0 tQ140_1 tQ140_2 tQ140_3 : Tok} (qQ140 : PySem.W.nsIn K mainGlobals "ONE" = some (some (.ref aQ140))) (rQ140 : K.lookup aQ140 = some ⟨.type "dict", none, .dict esQ140 nQ140, #[]⟩) (sQ140 : PySem.W.KeysLit w.params esQ140.toList) (vQ140 : (aQ140 == sysModules) = false)
    (xQ140 : esQ140.toList.map (·.key) = [.str (PySem.Str.ofString "negate") tQ140_0, .str (PySem.Str.ofString "not") tQ140_1, .str (PySem.Str.ofString "missing") tQ140_2, .str (PySem.Str.ofString "length") tQ140_3]) (yQ140 : esQ140.toList.map (·.val) = [.ref f434, .ref f435, .ref f436, .ref f437])
    {aQ141 : Addr} {esQ141 : Array DictEntry} {nQ141 : Nat} {tQ141_0 tQ141_1 tQ141_2 tQ141_3 tQ141_4 : Tok} (qQ141 : PySem.W.nsIn K mainGlobals "NUMBERS" = some (some (.ref aQ141))) (rQ141 : K.lookup aQ141 = some ⟨.type "dict", none, .dict esQ141 nQ141, #[]⟩) (sQ141 : PySem.W.KeysLit w.params esQ141.toList) (vQ141 : (aQ141 == sysModules) = false)
    (xQ141 : esQ141.toList.map (·.key) = [.str (PySem.Str.ofString "add") tQ141_0, .str (PySem.Str.ofString "subtract") tQ141_1, .str (PySem.Str.ofString "multiply") tQ141_2, .str (PySem.Str.ofString "divide") tQ141_3, .str (PySem.Str.ofString "remainder") tQ141_4]) (yQ141 : esQ141.toList.map (·.val) = [.ref f438, .ref f439, .ref f440, .ref f441, .ref f442])
    {aQ142 : Addr} {esQ142 : Array DictEntry} {nQ142 : Nat} {tQ142_0 tQ142_1 tQ142_2 tQ142_3 tQ142_4 : Tok} (qQ142 : PySem.W.nsIn K mainGlobals "TWO" = some (some (.ref aQ142))) (rQ142 : K.lookup aQ142 = some ⟨.type "dict", none, .dict esQ142 nQ142, #[]⟩) (sQ142 : PySem.W.KeysLit w.params esQ142.toList) (vQ142 : (aQ142 == sysModules) = false)
    (xQ142 : esQ142.toList.map (·.key) = [.str (PySem.Str.ofString "less") tQ142_0, .str (PySem.Str.ofString "equal") tQ142_1, .str (PySem.Str.ofString "and") tQ142_2, .str (PySem.Str.ofString "or") tQ142_3, .str (PySem.Str.ofString "starts") tQ142_4]) (yQ142 : esQ142.toList.map (·.val) = [.ref f443, .ref f444, .ref f445, .ref f446, .ref f447])
    (z0 : PySem.W.nsIn K mainGlobals "isinstance" = some none)
    (z1 : PySem.W.nsIn K mainGlobals "str" = some none)
    (z2 : PySem.W.nsIn K mainGlobals "int" = some none)
    (z3 : PySem.W.nsIn K mainGlobals "len" = some none)
    (z4 : PySem.W.nsIn K mainGlobals "list" = some none)
    (z5 : PySem.W.nsIn K mainGlobals "abs" = some none)
    (z6 : PySem.W.nsIn K mainGlobals "tuple" = some none)
    (z7 : PySem.W.nsIn K mainGlobals "all" = some none)
    (z8 : PySem.W.nsIn K mainGlobals "bool" = some none)
    (z9 : PySem.W.nsIn K mainGlobals "range" = some none)
    (z10 : PySem.W.nsIn K mainGlobals "repr" = some none)
    (hlaw : ∀ ns : List Int, ns.length ≤ 63 → ∃ S', run G 200 2 [.d (.scr ns)] [] = .ok (.d (.bl true)) S') :
    ∃ fd : FuncData, (∀ (s : Shared) (v : Value), BindsTo s fd ⟨[v], []⟩ [("script", v)]) ∧ ∀ base : Heap, K.In base → base.Ns mainGlobals mg → FnG l.prog w K mg base 201 fa fd ["script"] (spLaw K) := by
  have e := hfa.symm.trans (PySem.W.mg_of X GN a2)
  cases e
  let W : Wd := { K := K, w := w, fa := fun n => (List.lookup n [(426, f426), (428, f428), (429, f429), (430, f430), (431, f431), (432, f432), (433, f433), (434, f434), (435, f435), (436, f436), (437, f437), (438, f438), (439, f439), (440, f440), (441, f441), (442, f442), (443, f443), (444, f444), (445, f445), (446, f446), (447, f447), (448, f448), (449, f449), (500, f500), (501, f501), (507, f507), (0, f0), (531, f531), (657, f657), (658, f658), (532, f532), (659, f659), (660, f660), (661, f661), (662, f662), (1, f1), (2, fa)]).getD 0, ca := fun n => (List.lookup n []).getD 0, nm := nmOf [] }
  have F426 := fun_mk (st := (top 2)) l426 e426 p426
  have B426 := F426.binds (ps := ["value"])  fun _ _ _ _ _ _ us hl => match us, hl with | [_], _ => rfl
  have F428 := fun_mk (st := (top 3)) l428 e428 p428
  have B428 := F428.binds (ps := ["number"])  fun _ _ _ _ _ _ us hl => match us, hl with | [_], _ => rfl
  have F429 := fun_mk (st := (top 4)) l429 e429 p429
  have B429 := F429.binds (ps := ["value"])  fun _ _ _ _ _ _ us hl => match us, hl with | [_], _ => rfl
  have F430 := fun_mk (st := (top 5)) l430 e430 p430
  have B430 := F430.binds (ps := ["value"])  fun _ _ _ _ _ _ us hl => match us, hl with | [_], _ => rfl
  have F431 := fun_mk (st := (top 6)) l431 e431 p431
  have B431 := F431.binds (ps := ["known"])  fun _ _ _ _ _ _ us hl => match us, hl with | [_], _ => rfl
  have F432 := fun_mk (st := (top 7)) l432 e432 p432
  have B432 := F432.binds (ps := ["first", "second"])  fun _ _ _ _ _ _ us hl => match us, hl with | [_, _], _ => rfl
  have F433 := fun_mk (st := (top 8)) l433 e433 p433
  have B433 := F433.binds (ps := ["first", "second"])  fun _ _ _ _ _ _ us hl => match us, hl with | [_, _], _ => rfl
  have F434 := fun_mk (st := (top 9)) l434 e434 p434
  have B434 := F434.binds (ps := ["value"])  fun _ _ _ _ _ _ us hl => match us, hl with | [_], _ => rfl
  have F435 := fun_mk (st := (top 10)) l435 e435 p435
  have B435 := F435.binds (ps := ["value"])  fun _ _ _ _ _ _ us hl => match us, hl with | [_], _ => rfl
  have F436 := fun_mk (st := (top 11)) l436 e436 p436
  have B436 := F436.binds (ps := ["value"])  fun _ _ _ _ _ _ us hl => match us, hl with | [_], _ => rfl
  have F437 := fun_mk (st := (top 12)) l437 e437 p437
  have B437 := F437.binds (ps := ["value"])  fun _ _ _ _ _ _ us hl => match us, hl with | [_], _ => rfl
  have F438 := fun_mk (st := (top 13)) l438 e438 p438
  have B438 := F438.binds (ps := ["first", "second"])  fun _ _ _ _ _ _ us hl => match us, hl with | [_, _], _ => rfl
  have F439 := fun_mk (st := (top 14)) l439 e439 p439
  have B439 := F439.binds (ps := ["first", "second"])  fun _ _ _ _ _ _ us hl => match us, hl with | [_, _], _ => rfl
  have F440 := fun_mk (st := (top 15)) l440 e440 p440
  have B440 := F440.binds (ps := ["first", "second"])  fun _ _ _ _ _ _ us hl => match us, hl with | [_, _], _ => rfl
  have F441 := fun_mk (st := (top 16)) l441 e441 p441
  have B441 := F441.binds (ps := ["first", "second"])  fun _ _ _ _ _ _ us hl => match us, hl with | [_, _], _ => rfl
  have F442 := fun_mk (st := (top 17)) l442 e442 p442
  have B442 := F442.binds (ps := ["first", "second"])  fun _ _ _ _ _ _ us hl => match us, hl with | [_, _], _ => rfl
  have F443 := fun_mk (st := (top 18)) l443 e443 p443
  have B443 := F443.binds (ps := ["first", "second"])  fun _ _ _ _ _ _ us hl => match us, hl with | [_, _], _ => rfl
  have F444 := fun_mk (st := (top 19)) l444 e444 p444
  have B444 := F444.binds (ps := ["first", "second"])  fun _ _ _ _ _ _ us hl => match us, hl with | [_, _], _ => rfl
  have F445 := fun_mk (st := (top 20)) l445 e445 p445
  have B445 := F445.binds (ps := ["first", "second"])  fun _ _ _ _ _ _ us hl => match us, hl with | [_, _], _ => rfl
  have F446 := fun_mk (st := (top 21)) l446 e446 p446
  have B446 := F446.binds (ps := ["first", "second"])  fun _ _ _ _ _ _ us hl => match us, hl with | [_, _], _ => rfl
  have F447 := fun_mk (st := (top 22)) l447 e447 p447
  have B447 := F447.binds (ps := ["first", "second"])  fun _ _ _ _ _ _ us hl => match us, hl with | [_, _], _ => rfl
  have F448 := fun_mk (st := (top 26)) l448 e448 p448
  have B448 := F448.binds (ps := ["form", "first", "second"])  fun _ _ _ _ _ _ us hl => match us, hl with | [_, _, _], _ => rfl
  have F449 := fun_mk (st := (top 27)) l449 e449 p449
  have B449 := F449.binds (ps := ["expression", "row"])  fun _ _ _ _ _ _ us hl => match us, hl with | [_, _], _ => rfl
  have F500 := fun_mk (st := (top 29)) l500 e500 p500
  have B500 := F500.binds (ps := ["script"])  fun _ _ _ _ _ _ us hl => match us, hl with | [_], _ => rfl
  have F501 := fun_mk (st := (top 30)) l501 e501 p501
  have B501 := F501.binds (ps := ["draw", "many"])  fun _ _ _ _ _ _ us hl => match us, hl with | [_, _], _ => rfl
  have F507 := fun_mk (st := (top 31)) l507 e507 p507
  have B507 := F507.binds (ps := ["actual", "due"])  fun _ _ _ _ _ _ us hl => match us, hl with | [_, _], _ => rfl
  have F0 := fun_mk (st := (top 32)) l0 e0 p0
  have B0 := F0.binds (ps := ["draw"])  fun _ _ _ _ _ _ us hl => match us, hl with | [_], _ => rfl
  have F531 := fun_mk (st := (top 33)) l531 e531 p531
  have B531 := F531.binds (ps := ["value"])  fun _ _ _ _ _ _ us hl => match us, hl with | [_], _ => rfl
  have F657 := fun_mk (st := (top 37)) l657 e657 p657
  have B657 := F657.binds (ps := ["draw", "width", "depth"])  fun _ _ _ _ _ _ us hl => match us, hl with | [_, _, _], _ => rfl
  have F658 := fun_mk (st := (top 38)) l658 e658 p658
  have B658 := F658.binds (ps := ["value"])  fun _ _ _ _ _ _ us hl => match us, hl with | [_], _ => rfl
  have F532 := fun_mk (st := (top 39)) l532 e532 p532
  have B532 := F532.binds (ps := ["number"])  fun _ _ _ _ _ _ us hl => match us, hl with | [_], _ => rfl
  have F659 := fun_mk (st := (top 40)) l659 e659 p659
  have B659 := F659.binds (ps := ["word", "first", "second"])  fun _ _ _ _ _ _ us hl => match us, hl with | [_, _, _], _ => rfl
  have F660 := fun_mk (st := (top 41)) l660 e660 p660
  have B660 := F660.binds (ps := ["word", "first", "second"])  fun _ _ _ _ _ _ us hl => match us, hl with | [_, _, _], _ => rfl
  have F661 := fun_mk (st := (top 42)) l661 e661 p661
  have B661 := F661.binds (ps := ["word", "value"])  fun _ _ _ _ _ _ us hl => match us, hl with | [_, _], _ => rfl
  have F662 := fun_mk (st := (top 43)) l662 e662 p662
  have B662 := F662.binds (ps := ["tree", "row"])  fun _ _ _ _ _ _ us hl => match us, hl with | [_, _], _ => rfl
  have F1 := fun_mk (st := (top 47)) l1 e1 p1
  have B1 := F1.binds (ps := ["draw", "row"])  fun _ _ _ _ _ _ us hl => match us, hl with | [_, _], _ => rfl
  have F2 := fun_mk (st := (top 48)) l2 e2 p2
  have B2 := F2.binds (ps := ["script"])  fun _ _ _ _ _ _ us hl => match us, hl with | [_], _ => rfl
  have gdo : ∀ (x : Str) (f : Nat), gd.lookup x = some f → mg x = some (.ref (W.fa f)) ∧ ∃ d, G.defs f = some d ∧ d.init = false ∧ d.kw = false :=
    lk_cons (R := fun x f => mg x = some (.ref (W.fa f)) ∧ ∃ d, G.defs f = some d ∧ d.init = false ∧ d.kw = false) (⟨PySem.W.mg_of X GN a426, _, rfl, rfl, rfl⟩) (lk_cons (R := fun x f => mg x = some (.ref (W.fa f)) ∧ ∃ d, G.defs f = some d ∧ d.init = false ∧ d.kw = false) (⟨PySem.W.mg_of X GN a428, _, rfl, rfl, rfl⟩) (lk_cons (R := fun x f => mg x = some (.ref (W.fa f)) ∧ ∃ d, G.defs f = some d ∧ d.init = false ∧ d.kw = false) (⟨PySem.W.mg_of X GN a429, _, rfl, rfl, rfl⟩) (lk_cons (R := fun x f => mg x = some (.ref (W.fa f)) ∧ ∃ d, G.defs f = some d ∧ d.init = false ∧ d.kw = false) (⟨PySem.W.mg_of X GN a430, _, rfl, rfl, rfl⟩) (lk_cons (R := fun x f => mg x = some (.ref (W.fa f)) ∧ ∃ d, G.defs f = some d ∧ d.init = false ∧ d.kw = false) (⟨PySem.W.mg_of X GN a431, _, rfl, rfl, rfl⟩) (lk_cons (R := fun x f => mg x = some (.ref (W.fa f)) ∧ ∃ d, G.defs f = some d ∧ d.init = false ∧ d.kw = false) (⟨PySem.W.mg_of X GN a432, _, rfl, rfl, rfl⟩) (lk_cons (R := fun x f => mg x = some (.ref (W.fa f)) ∧ ∃ d, G.defs f = some d ∧ d.init = false ∧ d.kw = false) (⟨PySem.W.mg_of X GN a433, _, rfl, rfl, rfl⟩) (lk_cons (R := fun x f => mg x = some (.ref (W.fa f)) ∧ ∃ d, G.defs f = some d ∧ d.init = false ∧ d.kw = false) (⟨PySem.W.mg_of X GN a434, _, rfl, rfl, rfl⟩) (lk_cons (R := fun x f => mg x = some (.ref (W.fa f)) ∧ ∃ d, G.defs f = some d ∧ d.init = false ∧ d.kw = false) (⟨PySem.W.mg_of X GN a435, _, rfl, rfl, rfl⟩) (lk_cons (R := fun x f => mg x = some (.ref (W.fa f)) ∧ ∃ d, G.defs f = some d ∧ d.init = false ∧ d.kw = false) (⟨PySem.W.mg_of X GN a436, _, rfl, rfl, rfl⟩) (lk_cons (R := fun x f => mg x = some (.ref (W.fa f)) ∧ ∃ d, G.defs f = some d ∧ d.init = false ∧ d.kw = false) (⟨PySem.W.mg_of X GN a437, _, rfl, rfl, rfl⟩) (lk_cons (R := fun x f => mg x = some (.ref (W.fa f)) ∧ ∃ d, G.defs f = some d ∧ d.init = false ∧ d.kw = false) (⟨PySem.W.mg_of X GN a438, _, rfl, rfl, rfl⟩) (lk_cons (R := fun x f => mg x = some (.ref (W.fa f)) ∧ ∃ d, G.defs f = some d ∧ d.init = false ∧ d.kw = false) (⟨PySem.W.mg_of X GN a439, _, rfl, rfl, rfl⟩) (lk_cons (R := fun x f => mg x = some (.ref (W.fa f)) ∧ ∃ d, G.defs f = some d ∧ d.init = false ∧ d.kw = false) (⟨PySem.W.mg_of X GN a440, _, rfl, rfl, rfl⟩) (lk_cons (R := fun x f => mg x = some (.ref (W.fa f)) ∧ ∃ d, G.defs f = some d ∧ d.init = false ∧ d.kw = false) (⟨PySem.W.mg_of X GN a441, _, rfl, rfl, rfl⟩) (lk_cons (R := fun x f => mg x = some (.ref (W.fa f)) ∧ ∃ d, G.defs f = some d ∧ d.init = false ∧ d.kw = false) (⟨PySem.W.mg_of X GN a442, _, rfl, rfl, rfl⟩) (lk_cons (R := fun x f => mg x = some (.ref (W.fa f)) ∧ ∃ d, G.defs f = some d ∧ d.init = false ∧ d.kw = false) (⟨PySem.W.mg_of X GN a443, _, rfl, rfl, rfl⟩) (lk_cons (R := fun x f => mg x = some (.ref (W.fa f)) ∧ ∃ d, G.defs f = some d ∧ d.init = false ∧ d.kw = false) (⟨PySem.W.mg_of X GN a444, _, rfl, rfl, rfl⟩) (lk_cons (R := fun x f => mg x = some (.ref (W.fa f)) ∧ ∃ d, G.defs f = some d ∧ d.init = false ∧ d.kw = false) (⟨PySem.W.mg_of X GN a445, _, rfl, rfl, rfl⟩) (lk_cons (R := fun x f => mg x = some (.ref (W.fa f)) ∧ ∃ d, G.defs f = some d ∧ d.init = false ∧ d.kw = false) (⟨PySem.W.mg_of X GN a446, _, rfl, rfl, rfl⟩) (lk_cons (R := fun x f => mg x = some (.ref (W.fa f)) ∧ ∃ d, G.defs f = some d ∧ d.init = false ∧ d.kw = false) (⟨PySem.W.mg_of X GN a447, _, rfl, rfl, rfl⟩) (lk_cons (R := fun x f => mg x = some (.ref (W.fa f)) ∧ ∃ d, G.defs f = some d ∧ d.init = false ∧ d.kw = false) (⟨PySem.W.mg_of X GN a448, _, rfl, rfl, rfl⟩) (lk_cons (R := fun x f => mg x = some (.ref (W.fa f)) ∧ ∃ d, G.defs f = some d ∧ d.init = false ∧ d.kw = false) (⟨PySem.W.mg_of X GN a449, _, rfl, rfl, rfl⟩) (lk_cons (R := fun x f => mg x = some (.ref (W.fa f)) ∧ ∃ d, G.defs f = some d ∧ d.init = false ∧ d.kw = false) (⟨PySem.W.mg_of X GN a500, _, rfl, rfl, rfl⟩) (lk_cons (R := fun x f => mg x = some (.ref (W.fa f)) ∧ ∃ d, G.defs f = some d ∧ d.init = false ∧ d.kw = false) (⟨PySem.W.mg_of X GN a501, _, rfl, rfl, rfl⟩) (lk_cons (R := fun x f => mg x = some (.ref (W.fa f)) ∧ ∃ d, G.defs f = some d ∧ d.init = false ∧ d.kw = false) (⟨PySem.W.mg_of X GN a507, _, rfl, rfl, rfl⟩) (lk_cons (R := fun x f => mg x = some (.ref (W.fa f)) ∧ ∃ d, G.defs f = some d ∧ d.init = false ∧ d.kw = false) (⟨PySem.W.mg_of X GN a0, _, rfl, rfl, rfl⟩) (lk_cons (R := fun x f => mg x = some (.ref (W.fa f)) ∧ ∃ d, G.defs f = some d ∧ d.init = false ∧ d.kw = false) (⟨PySem.W.mg_of X GN a531, _, rfl, rfl, rfl⟩) (lk_cons (R := fun x f => mg x = some (.ref (W.fa f)) ∧ ∃ d, G.defs f = some d ∧ d.init = false ∧ d.kw = false) (⟨PySem.W.mg_of X GN a657, _, rfl, rfl, rfl⟩) (lk_cons (R := fun x f => mg x = some (.ref (W.fa f)) ∧ ∃ d, G.defs f = some d ∧ d.init = false ∧ d.kw = false) (⟨PySem.W.mg_of X GN a658, _, rfl, rfl, rfl⟩) (lk_cons (R := fun x f => mg x = some (.ref (W.fa f)) ∧ ∃ d, G.defs f = some d ∧ d.init = false ∧ d.kw = false) (⟨PySem.W.mg_of X GN a532, _, rfl, rfl, rfl⟩) (lk_cons (R := fun x f => mg x = some (.ref (W.fa f)) ∧ ∃ d, G.defs f = some d ∧ d.init = false ∧ d.kw = false) (⟨PySem.W.mg_of X GN a659, _, rfl, rfl, rfl⟩) (lk_cons (R := fun x f => mg x = some (.ref (W.fa f)) ∧ ∃ d, G.defs f = some d ∧ d.init = false ∧ d.kw = false) (⟨PySem.W.mg_of X GN a660, _, rfl, rfl, rfl⟩) (lk_cons (R := fun x f => mg x = some (.ref (W.fa f)) ∧ ∃ d, G.defs f = some d ∧ d.init = false ∧ d.kw = false) (⟨PySem.W.mg_of X GN a661, _, rfl, rfl, rfl⟩) (lk_cons (R := fun x f => mg x = some (.ref (W.fa f)) ∧ ∃ d, G.defs f = some d ∧ d.init = false ∧ d.kw = false) (⟨PySem.W.mg_of X GN a662, _, rfl, rfl, rfl⟩) (lk_cons (R := fun x f => mg x = some (.ref (W.fa f)) ∧ ∃ d, G.defs f = some d ∧ d.init = false ∧ d.kw = false) (⟨PySem.W.mg_of X GN a1, _, rfl, rfl, rfl⟩) (lk_cons (R := fun x f => mg x = some (.ref (W.fa f)) ∧ ∃ d, G.defs f = some d ∧ d.init = false ∧ d.kw = false) (⟨PySem.W.mg_of X GN a2, _, rfl, rfl, rfl⟩) (lk_nil)))))))))))))))))))))))))))))))))))))
  have gbo : ∀ x : Str, x ∈ gb → mg x = none :=
    gb_cons (PySem.W.mg_none_of X GN z0) (gb_cons (PySem.W.mg_none_of X GN z1) (gb_cons (PySem.W.mg_none_of X GN z2) (gb_cons (PySem.W.mg_none_of X GN z3) (gb_cons (PySem.W.mg_none_of X GN z4) (gb_cons (PySem.W.mg_none_of X GN z5) (gb_cons (PySem.W.mg_none_of X GN z6) (gb_cons (PySem.W.mg_none_of X GN z7) (gb_cons (PySem.W.mg_none_of X GN z8) (gb_cons (PySem.W.mg_none_of X GN z9) (gb_cons (PySem.W.mg_none_of X GN z10) (gb_nil)))))))))))
  have gco : ∀ (x : Str) (g : Nat), gc.lookup x = some g → ∃ v u, mg x = some u ∧ RelV v u ∧ ∀ F, Rp W F (G.con g) v :=
    gc_cons (⟨.int (1000000000000000), _, PySem.W.mg_of X GN qQ139, ⟨_, rfl⟩, fun _ => rfl⟩) (gc_cons (⟨.ref aQ140, _, PySem.W.mg_of X GN qQ140, rfl, fun _ => ⟨aQ140, [.ref f434, .ref f435, .ref f436, .ref f437], rfl, wd_mk (W := W) rQ140 sQ140 vQ140 (.cons (z := [110, 101, 103, 97, 116, 101]) (.cons (z := [110, 111, 116]) (.cons (z := [109, 105, 115, 115, 105, 110, 103]) (.cons (z := [108, 101, 110, 103, 116, 104]) KeysR.nil)))) (.cons (show RelV (.ref f434) _ from rfl) (.cons (show RelV (.ref f435) _ from rfl) (.cons (show RelV (.ref f436) _ from rfl) (.cons (show RelV (.ref f437) _ from rfl) .nil)))) xQ140 yQ140, ⟨_, _, rfl, rfl, ⟨_, _, rfl, rfl, ⟨_, _, rfl, rfl, ⟨_, _, rfl, rfl, rfl⟩⟩⟩⟩⟩⟩) (gc_cons (⟨.ref aQ141, _, PySem.W.mg_of X GN qQ141, rfl, fun _ => ⟨aQ141, [.ref f438, .ref f439, .ref f440, .ref f441, .ref f442], rfl, wd_mk (W := W) rQ141 sQ141 vQ141 (.cons (z := [97, 100, 100]) (.cons (z := [115, 117, 98, 116, 114, 97, 99, 116]) (.cons (z := [109, 117, 108, 116, 105, 112, 108, 121]) (.cons (z := [100, 105, 118, 105, 100, 101]) (.cons (z := [114, 101, 109, 97, 105, 110, 100, 101, 114]) KeysR.nil))))) (.cons (show RelV (.ref f438) _ from rfl) (.cons (show RelV (.ref f439) _ from rfl) (.cons (show RelV (.ref f440) _ from rfl) (.cons (show RelV (.ref f441) _ from rfl) (.cons (show RelV (.ref f442) _ from rfl) .nil))))) xQ141 yQ141, ⟨_, _, rfl, rfl, ⟨_, _, rfl, rfl, ⟨_, _, rfl, rfl, ⟨_, _, rfl, rfl, ⟨_, _, rfl, rfl, rfl⟩⟩⟩⟩⟩⟩⟩) (gc_cons (⟨.ref aQ142, _, PySem.W.mg_of X GN qQ142, rfl, fun _ => ⟨aQ142, [.ref f443, .ref f444, .ref f445, .ref f446, .ref f447], rfl, wd_mk (W := W) rQ142 sQ142 vQ142 (.cons (z := [108, 101, 115, 115]) (.cons (z := [101, 113, 117, 97, 108]) (.cons (z := [97, 110, 100]) (.cons (z := [111, 114]) (.cons (z := [115, 116, 97, 114, 116, 115]) KeysR.nil))))) (.cons (show RelV (.ref f443) _ from rfl) (.cons (show RelV (.ref f444) _ from rfl) (.cons (show RelV (.ref f445) _ from rfl) (.cons (show RelV (.ref f446) _ from rfl) (.cons (show RelV (.ref f447) _ from rfl) .nil))))) xQ142 yQ142, ⟨_, _, rfl, rfl, ⟨_, _, rfl, rfl, ⟨_, _, rfl, rfl, ⟨_, _, rfl, rfl, ⟨_, _, rfl, rfl, rfl⟩⟩⟩⟩⟩⟩⟩) (gc_nil))))
  have gfo : ∀ (f : Str) (q : Nat × List Nat), gf.lookup f = some q → FldOk K W f q.1 q.2 :=
    lk_nil
  have gmo : ∀ (m : Str) (tab : List (Nat × Nat)), gm.lookup m = some tab → (∀ j, W.nm j ≠ m) ∧ ∀ p ∈ tab, Cls K (W.ca p.1) ∧ Meth K (W.ca p.1) m (W.fa p.2) ∧ ∃ d, G.defs p.2 = some d ∧ d.init = false ∧ d.kw = false :=
    lk_nil
  have gko : ∀ (x : Str) (q : Nat × Nat), gk.lookup x = some q → Mk K (W.ca q.1) (W.fa q.2) ∧ mg x = some (.ref (W.ca q.1)) ∧ ∃ d, G.defs q.2 = some d ∧ d.init = true ∧ d.kw = false :=
    lk_nil
  have ggo : ∀ x : Str, x ∈ gg → mg x = some (.builtin "math.gcd") :=
    mk_nil
  have kdo : ∀ (x : Str) (q : Nat × List (Nat × List Str × List (Option D))), kd.lookup x = some q → mg x = some (.ref (W.fa q.1)) ∧ ∃ d, G.defs q.1 = some d ∧ d.init = false ∧ d.kws = q.2 :=
    lk_nil
  have M426 : ModOk K mg W G c426 := ⟨gbo, gdo, gco, fun f i cs h => gfo f (i, cs) h, gmo, fun x c f h => gko x (c, f) h, ggo, fun x f ss h => kdo x (f, ss) h⟩
  have D426 : DefOk K mg W G 426 d426 c426 60 _ _ _ _ _ := ⟨F426, s426, rfl, rfl, k426, rfl, rfl, fun _ => B426, mk_nil⟩
  have M428 : ModOk K mg W G c428 := ⟨gbo, gdo, gco, fun f i cs h => gfo f (i, cs) h, gmo, fun x c f h => gko x (c, f) h, ggo, fun x f ss h => kdo x (f, ss) h⟩
  have D428 : DefOk K mg W G 428 d428 c428 60 _ _ _ _ _ := ⟨F428, s428, rfl, rfl, k428, rfl, rfl, fun _ => B428, mk_nil⟩
  have M429 : ModOk K mg W G c429 := ⟨gbo, gdo, gco, fun f i cs h => gfo f (i, cs) h, gmo, fun x c f h => gko x (c, f) h, ggo, fun x f ss h => kdo x (f, ss) h⟩
  have D429 : DefOk K mg W G 429 d429 c429 60 _ _ _ _ _ := ⟨F429, s429, rfl, rfl, k429, rfl, rfl, fun _ => B429, mk_nil⟩
  have M430 : ModOk K mg W G c430 := ⟨gbo, gdo, gco, fun f i cs h => gfo f (i, cs) h, gmo, fun x c f h => gko x (c, f) h, ggo, fun x f ss h => kdo x (f, ss) h⟩
  have D430 : DefOk K mg W G 430 d430 c430 60 _ _ _ _ _ := ⟨F430, s430, rfl, rfl, k430, rfl, rfl, fun _ => B430, mk_nil⟩
  have M431 : ModOk K mg W G c431 := ⟨gbo, gdo, gco, fun f i cs h => gfo f (i, cs) h, gmo, fun x c f h => gko x (c, f) h, ggo, fun x f ss h => kdo x (f, ss) h⟩
  have D431 : DefOk K mg W G 431 d431 c431 60 _ _ _ _ _ := ⟨F431, s431, rfl, rfl, k431, rfl, rfl, fun _ => B431, mk_nil⟩
  have M432 : ModOk K mg W G c432 := ⟨gbo, gdo, gco, fun f i cs h => gfo f (i, cs) h, gmo, fun x c f h => gko x (c, f) h, ggo, fun x f ss h => kdo x (f, ss) h⟩
  have D432 : DefOk K mg W G 432 d432 c432 60 _ _ _ _ _ := ⟨F432, s432, rfl, rfl, k432, rfl, rfl, fun _ => B432, mk_nil⟩
  have M433 : ModOk K mg W G c433 := ⟨gbo, gdo, gco, fun f i cs h => gfo f (i, cs) h, gmo, fun x c f h => gko x (c, f) h, ggo, fun x f ss h => kdo x (f, ss) h⟩
  have D433 : DefOk K mg W G 433 d433 c433 60 _ _ _ _ _ := ⟨F433, s433, rfl, rfl, k433, rfl, rfl, fun _ => B433, mk_nil⟩
  have M434 : ModOk K mg W G c434 := ⟨gbo, gdo, gco, fun f i cs h => gfo f (i, cs) h, gmo, fun x c f h => gko x (c, f) h, ggo, fun x f ss h => kdo x (f, ss) h⟩
  have D434 : DefOk K mg W G 434 d434 c434 60 _ _ _ _ _ := ⟨F434, s434, rfl, rfl, k434, rfl, rfl, fun _ => B434, mk_nil⟩
  have M435 : ModOk K mg W G c435 := ⟨gbo, gdo, gco, fun f i cs h => gfo f (i, cs) h, gmo, fun x c f h => gko x (c, f) h, ggo, fun x f ss h => kdo x (f, ss) h⟩
  have D435 : DefOk K mg W G 435 d435 c435 60 _ _ _ _ _ := ⟨F435, s435, rfl, rfl, k435, rfl, rfl, fun _ => B435, mk_nil⟩
  have M436 : ModOk K mg W G c436 := ⟨gbo, gdo, gco, fun f i cs h => gfo f (i, cs) h, gmo, fun x c f h => gko x (c, f) h, ggo, fun x f ss h => kdo x (f, ss) h⟩
  have D436 : DefOk K mg W G 436 d436 c436 60 _ _ _ _ _ := ⟨F436, s436, rfl, rfl, k436, rfl, rfl, fun _ => B436, mk_nil⟩
  have M437 : ModOk K mg W G c437 := ⟨gbo, gdo, gco, fun f i cs h => gfo f (i, cs) h, gmo, fun x c f h => gko x (c, f) h, ggo, fun x f ss h => kdo x (f, ss) h⟩
  have D437 : DefOk K mg W G 437 d437 c437 60 _ _ _ _ _ := ⟨F437, s437, rfl, rfl, k437, rfl, rfl, fun _ => B437, mk_nil⟩
  have M438 : ModOk K mg W G c438 := ⟨gbo, gdo, gco, fun f i cs h => gfo f (i, cs) h, gmo, fun x c f h => gko x (c, f) h, ggo, fun x f ss h => kdo x (f, ss) h⟩
  have D438 : DefOk K mg W G 438 d438 c438 60 _ _ _ _ _ := ⟨F438, s438, rfl, rfl, k438, rfl, rfl, fun _ => B438, mk_nil⟩
  have M439 : ModOk K mg W G c439 := ⟨gbo, gdo, gco, fun f i cs h => gfo f (i, cs) h, gmo, fun x c f h => gko x (c, f) h, ggo, fun x f ss h => kdo x (f, ss) h⟩
  have D439 : DefOk K mg W G 439 d439 c439 60 _ _ _ _ _ := ⟨F439, s439, rfl, rfl, k439, rfl, rfl, fun _ => B439, mk_nil⟩
  have M440 : ModOk K mg W G c440 := ⟨gbo, gdo, gco, fun f i cs h => gfo f (i, cs) h, gmo, fun x c f h => gko x (c, f) h, ggo, fun x f ss h => kdo x (f, ss) h⟩
  have D440 : DefOk K mg W G 440 d440 c440 60 _ _ _ _ _ := ⟨F440, s440, rfl, rfl, k440, rfl, rfl, fun _ => B440, mk_nil⟩
  have M441 : ModOk K mg W G c441 := ⟨gbo, gdo, gco, fun f i cs h => gfo f (i, cs) h, gmo, fun x c f h => gko x (c, f) h, ggo, fun x f ss h => kdo x (f, ss) h⟩
  have D441 : DefOk K mg W G 441 d441 c441 60 _ _ _ _ _ := ⟨F441, s441, rfl, rfl, k441, rfl, rfl, fun _ => B441, mk_nil⟩
  have M442 : ModOk K mg W G c442 := ⟨gbo, gdo, gco, fun f i cs h => gfo f (i, cs) h, gmo, fun x c f h => gko x (c, f) h, ggo, fun x f ss h => kdo x (f, ss) h⟩
  have D442 : DefOk K mg W G 442 d442 c442 60 _ _ _ _ _ := ⟨F442, s442, rfl, rfl, k442, rfl, rfl, fun _ => B442, mk_nil⟩
  have M443 : ModOk K mg W G c443 := ⟨gbo, gdo, gco, fun f i cs h => gfo f (i, cs) h, gmo, fun x c f h => gko x (c, f) h, ggo, fun x f ss h => kdo x (f, ss) h⟩
  have D443 : DefOk K mg W G 443 d443 c443 60 _ _ _ _ _ := ⟨F443, s443, rfl, rfl, k443, rfl, rfl, fun _ => B443, mk_nil⟩
  have M444 : ModOk K mg W G c444 := ⟨gbo, gdo, gco, fun f i cs h => gfo f (i, cs) h, gmo, fun x c f h => gko x (c, f) h, ggo, fun x f ss h => kdo x (f, ss) h⟩
  have D444 : DefOk K mg W G 444 d444 c444 60 _ _ _ _ _ := ⟨F444, s444, rfl, rfl, k444, rfl, rfl, fun _ => B444, mk_nil⟩
  have M445 : ModOk K mg W G c445 := ⟨gbo, gdo, gco, fun f i cs h => gfo f (i, cs) h, gmo, fun x c f h => gko x (c, f) h, ggo, fun x f ss h => kdo x (f, ss) h⟩
  have D445 : DefOk K mg W G 445 d445 c445 60 _ _ _ _ _ := ⟨F445, s445, rfl, rfl, k445, rfl, rfl, fun _ => B445, mk_nil⟩
  have M446 : ModOk K mg W G c446 := ⟨gbo, gdo, gco, fun f i cs h => gfo f (i, cs) h, gmo, fun x c f h => gko x (c, f) h, ggo, fun x f ss h => kdo x (f, ss) h⟩
  have D446 : DefOk K mg W G 446 d446 c446 60 _ _ _ _ _ := ⟨F446, s446, rfl, rfl, k446, rfl, rfl, fun _ => B446, mk_nil⟩
  have M447 : ModOk K mg W G c447 := ⟨gbo, gdo, gco, fun f i cs h => gfo f (i, cs) h, gmo, fun x c f h => gko x (c, f) h, ggo, fun x f ss h => kdo x (f, ss) h⟩
  have D447 : DefOk K mg W G 447 d447 c447 60 _ _ _ _ _ := ⟨F447, s447, rfl, rfl, k447, rfl, rfl, fun _ => B447, mk_nil⟩
  have M448 : ModOk K mg W G c448 := ⟨gbo, gdo, gco, fun f i cs h => gfo f (i, cs) h, gmo, fun x c f h => gko x (c, f) h, ggo, fun x f ss h => kdo x (f, ss) h⟩
  have D448 : DefOk K mg W G 448 d448 c448 60 _ _ _ _ _ := ⟨F448, s448, rfl, rfl, k448, rfl, rfl, fun _ => B448, mk_nil⟩
  have M449 : ModOk K mg W G c449 := ⟨gbo, gdo, gco, fun f i cs h => gfo f (i, cs) h, gmo, fun x c f h => gko x (c, f) h, ggo, fun x f ss h => kdo x (f, ss) h⟩
  have D449 : DefOk K mg W G 449 d449 c449 60 _ _ _ _ _ := ⟨F449, s449, rfl, rfl, k449, rfl, rfl, fun _ => B449, mk_nil⟩
  have M500 : ModOk K mg W G c500 := ⟨gbo, gdo, gco, fun f i cs h => gfo f (i, cs) h, gmo, fun x c f h => gko x (c, f) h, ggo, fun x f ss h => kdo x (f, ss) h⟩
  have D500 : DefOk K mg W G 500 d500 c500 60 _ _ _ _ _ := ⟨F500, s500, rfl, rfl, k500, rfl, rfl, fun _ => B500, mk_nil⟩
  have M501 : ModOk K mg W G c501 := ⟨gbo, gdo, gco, fun f i cs h => gfo f (i, cs) h, gmo, fun x c f h => gko x (c, f) h, ggo, fun x f ss h => kdo x (f, ss) h⟩
  have D501 : DefOk K mg W G 501 d501 c501 60 _ _ _ _ _ := ⟨F501, s501, rfl, rfl, k501, rfl, rfl, fun _ => B501, mk_nil⟩
  have M507 : ModOk K mg W G c507 := ⟨gbo, gdo, gco, fun f i cs h => gfo f (i, cs) h, gmo, fun x c f h => gko x (c, f) h, ggo, fun x f ss h => kdo x (f, ss) h⟩
  have D507 : DefOk K mg W G 507 d507 c507 60 _ _ _ _ _ := ⟨F507, s507, rfl, rfl, k507, rfl, rfl, fun _ => B507, mk_nil⟩
  have M0 : ModOk K mg W G c0 := ⟨gbo, gdo, gco, fun f i cs h => gfo f (i, cs) h, gmo, fun x c f h => gko x (c, f) h, ggo, fun x f ss h => kdo x (f, ss) h⟩
  have D0 : DefOk K mg W G 0 d0 c0 60 _ _ _ _ _ := ⟨F0, s0, rfl, rfl, k0, rfl, rfl, fun _ => B0, mk_nil⟩
  have M531 : ModOk K mg W G c531 := ⟨gbo, gdo, gco, fun f i cs h => gfo f (i, cs) h, gmo, fun x c f h => gko x (c, f) h, ggo, fun x f ss h => kdo x (f, ss) h⟩
  have D531 : DefOk K mg W G 531 d531 c531 60 _ _ _ _ _ := ⟨F531, s531, rfl, rfl, k531, rfl, rfl, fun _ => B531, mk_nil⟩
  have M657 : ModOk K mg W G c657 := ⟨gbo, gdo, gco, fun f i cs h => gfo f (i, cs) h, gmo, fun x c f h => gko x (c, f) h, ggo, fun x f ss h => kdo x (f, ss) h⟩
  have D657 : DefOk K mg W G 657 d657 c657 60 _ _ _ _ _ := ⟨F657, s657, rfl, rfl, k657, rfl, rfl, fun _ => B657, mk_nil⟩
  have M658 : ModOk K mg W G c658 := ⟨gbo, gdo, gco, fun f i cs h => gfo f (i, cs) h, gmo, fun x c f h => gko x (c, f) h, ggo, fun x f ss h => kdo x (f, ss) h⟩
  have D658 : DefOk K mg W G 658 d658 c658 60 _ _ _ _ _ := ⟨F658, s658, rfl, rfl, k658, rfl, rfl, fun _ => B658, mk_nil⟩
  have M532 : ModOk K mg W G c532 := ⟨gbo, gdo, gco, fun f i cs h => gfo f (i, cs) h, gmo, fun x c f h => gko x (c, f) h, ggo, fun x f ss h => kdo x (f, ss) h⟩
  have D532 : DefOk K mg W G 532 d532 c532 60 _ _ _ _ _ := ⟨F532, s532, rfl, rfl, k532, rfl, rfl, fun _ => B532, mk_nil⟩
  have M659 : ModOk K mg W G c659 := ⟨gbo, gdo, gco, fun f i cs h => gfo f (i, cs) h, gmo, fun x c f h => gko x (c, f) h, ggo, fun x f ss h => kdo x (f, ss) h⟩
  have D659 : DefOk K mg W G 659 d659 c659 60 _ _ _ _ _ := ⟨F659, s659, rfl, rfl, k659, rfl, rfl, fun _ => B659, mk_nil⟩
  have M660 : ModOk K mg W G c660 := ⟨gbo, gdo, gco, fun f i cs h => gfo f (i, cs) h, gmo, fun x c f h => gko x (c, f) h, ggo, fun x f ss h => kdo x (f, ss) h⟩
  have D660 : DefOk K mg W G 660 d660 c660 60 _ _ _ _ _ := ⟨F660, s660, rfl, rfl, k660, rfl, rfl, fun _ => B660, mk_nil⟩
  have M661 : ModOk K mg W G c661 := ⟨gbo, gdo, gco, fun f i cs h => gfo f (i, cs) h, gmo, fun x c f h => gko x (c, f) h, ggo, fun x f ss h => kdo x (f, ss) h⟩
  have D661 : DefOk K mg W G 661 d661 c661 60 _ _ _ _ _ := ⟨F661, s661, rfl, rfl, k661, rfl, rfl, fun _ => B661, mk_nil⟩
  have M662 : ModOk K mg W G c662 := ⟨gbo, gdo, gco, fun f i cs h => gfo f (i, cs) h, gmo, fun x c f h => gko x (c, f) h, ggo, fun x f ss h => kdo x (f, ss) h⟩
  have D662 : DefOk K mg W G 662 d662 c662 60 _ _ _ _ _ := ⟨F662, s662, rfl, rfl, k662, rfl, rfl, fun _ => B662, mk_nil⟩
  have M1 : ModOk K mg W G c1 := ⟨gbo, gdo, gco, fun f i cs h => gfo f (i, cs) h, gmo, fun x c f h => gko x (c, f) h, ggo, fun x f ss h => kdo x (f, ss) h⟩
  have D1 : DefOk K mg W G 1 d1 c1 60 _ _ _ _ _ := ⟨F1, s1, rfl, rfl, k1, rfl, rfl, fun _ => B1, mk_nil⟩
  have M2 : ModOk K mg W G c2 := ⟨gbo, gdo, gco, fun f i cs h => gfo f (i, cs) h, gmo, fun x c f h => gko x (c, f) h, ggo, fun x f ss h => kdo x (f, ss) h⟩
  have D2 : DefOk K mg W G 2 d2 c2 60 _ _ _ _ _ := ⟨F2, s2, rfl, rfl, k2, rfl, rfl, fun _ => B2, mk_nil⟩
  have hd : ∀ f d, G.defs f = some d → ∃ C n x q st fd ps, DefOk K mg W G f d C n x q st fd ps ∧ ModOk K mg W G C :=
    nk_cons (R := fun f d => ∃ C n x q st fd ps, DefOk K mg W G f d C n x q st fd ps ∧ ModOk K mg W G C) (⟨_, _, _, _, _, _, _, D426, M426⟩) (nk_cons (R := fun f d => ∃ C n x q st fd ps, DefOk K mg W G f d C n x q st fd ps ∧ ModOk K mg W G C) (⟨_, _, _, _, _, _, _, D428, M428⟩) (nk_cons (R := fun f d => ∃ C n x q st fd ps, DefOk K mg W G f d C n x q st fd ps ∧ ModOk K mg W G C) (⟨_, _, _, _, _, _, _, D429, M429⟩) (nk_cons (R := fun f d => ∃ C n x q st fd ps, DefOk K mg W G f d C n x q st fd ps ∧ ModOk K mg W G C) (⟨_, _, _, _, _, _, _, D430, M430⟩) (nk_cons (R := fun f d => ∃ C n x q st fd ps, DefOk K mg W G f d C n x q st fd ps ∧ ModOk K mg W G C) (⟨_, _, _, _, _, _, _, D431, M431⟩) (nk_cons (R := fun f d => ∃ C n x q st fd ps, DefOk K mg W G f d C n x q st fd ps ∧ ModOk K mg W G C) (⟨_, _, _, _, _, _, _, D432, M432⟩) (nk_cons (R := fun f d => ∃ C n x q st fd ps, DefOk K mg W G f d C n x q st fd ps ∧ ModOk K mg W G C) (⟨_, _, _, _, _, _, _, D433, M433⟩) (nk_cons (R := fun f d => ∃ C n x q st fd ps, DefOk K mg W G f d C n x q st fd ps ∧ ModOk K mg W G C) (⟨_, _, _, _, _, _, _, D434, M434⟩) (nk_cons (R := fun f d => ∃ C n x q st fd ps, DefOk K mg W G f d C n x q st fd ps ∧ ModOk K mg W G C) (⟨_, _, _, _, _, _, _, D435, M435⟩) (nk_cons (R := fun f d => ∃ C n x q st fd ps, DefOk K mg W G f d C n x q st fd ps ∧ ModOk K mg W G C) (⟨_, _, _, _, _, _, _, D436, M436⟩) (nk_cons (R := fun f d => ∃ C n x q st fd ps, DefOk K mg W G f d C n x q st fd ps ∧ ModOk K mg W G C) (⟨_, _, _, _, _, _, _, D437, M437⟩) (nk_cons (R := fun f d => ∃ C n x q st fd ps, DefOk K mg W G f d C n x q st fd ps ∧ ModOk K mg W G C) (⟨_, _, _, _, _, _, _, D438, M438⟩) (nk_cons (R := fun f d => ∃ C n x q st fd ps, DefOk K mg W G f d C n x q st fd ps ∧ ModOk K mg W G C) (⟨_, _, _, _, _, _, _, D439, M439⟩) (nk_cons (R := fun f d => ∃ C n x q st fd ps, DefOk K mg W G f d C n x q st fd ps ∧ ModOk K mg W G C) (⟨_, _, _, _, _, _, _, D440, M440⟩) (nk_cons (R := fun f d => ∃ C n x q st fd ps, DefOk K mg W G f d C n x q st fd ps ∧ ModOk K mg W G C) (⟨_, _, _, _, _, _, _, D441, M441⟩) (nk_cons (R := fun f d => ∃ C n x q st fd ps, DefOk K mg W G f d C n x q st fd ps ∧ ModOk K mg W G C) (⟨_, _, _, _, _, _, _, D442, M442⟩) (nk_cons (R := fun f d => ∃ C n x q st fd ps, DefOk K mg W G f d C n x q st fd ps ∧ ModOk K mg W G C) (⟨_, _, _, _, _, _, _, D443, M443⟩) (nk_cons (R := fun f d => ∃ C n x q st fd ps, DefOk K mg W G f d C n x q st fd ps ∧ ModOk K mg W G C) (⟨_, _, _, _, _, _, _, D444, M444⟩) (nk_cons (R := fun f d => ∃ C n x q st fd ps, DefOk K mg W G f d C n x q st fd ps ∧ ModOk K mg W G C) (⟨_, _, _, _, _, _, _, D445, M445⟩) (nk_cons (R := fun f d => ∃ C n x q st fd ps, DefOk K mg W G f d C n x q st fd ps ∧ ModOk K mg W G C) (⟨_, _, _, _, _, _, _, D446, M446⟩) (nk_cons (R := fun f d => ∃ C n x q st fd ps, DefOk K mg W G f d C n x q st fd ps ∧ ModOk K mg W G C) (⟨_, _, _, _, _, _, _, D447, M447⟩) (nk_cons (R := fun f d => ∃ C n x q st fd ps, DefOk K mg W G f d C n x q st fd ps ∧ ModOk K mg W G C) (⟨_, _, _, _, _, _, _, D448, M448⟩) (nk_cons (R := fun f d => ∃ C n x q st fd ps, DefOk K mg W G f d C n x q st fd ps ∧ ModOk K mg W G C) (⟨_, _, _, _, _, _, _, D449, M449⟩) (nk_cons (R := fun f d => ∃ C n x q st fd ps, DefOk K mg W G f d C n x q st fd ps ∧ ModOk K mg W G C) (⟨_, _, _, _, _, _, _, D500, M500⟩) (nk_cons (R := fun f d => ∃ C n x q st fd ps, DefOk K mg W G f d C n x q st fd ps ∧ ModOk K mg W G C) (⟨_, _, _, _, _, _, _, D501, M501⟩) (nk_cons (R := fun f d => ∃ C n x q st fd ps, DefOk K mg W G f d C n x q st fd ps ∧ ModOk K mg W G C) (⟨_, _, _, _, _, _, _, D507, M507⟩) (nk_cons (R := fun f d => ∃ C n x q st fd ps, DefOk K mg W G f d C n x q st fd ps ∧ ModOk K mg W G C) (⟨_, _, _, _, _, _, _, D0, M0⟩) (nk_cons (R := fun f d => ∃ C n x q st fd ps, DefOk K mg W G f d C n x q st fd ps ∧ ModOk K mg W G C) (⟨_, _, _, _, _, _, _, D531, M531⟩) (nk_cons (R := fun f d => ∃ C n x q st fd ps, DefOk K mg W G f d C n x q st fd ps ∧ ModOk K mg W G C) (⟨_, _, _, _, _, _, _, D657, M657⟩) (nk_cons (R := fun f d => ∃ C n x q st fd ps, DefOk K mg W G f d C n x q st fd ps ∧ ModOk K mg W G C) (⟨_, _, _, _, _, _, _, D658, M658⟩) (nk_cons (R := fun f d => ∃ C n x q st fd ps, DefOk K mg W G f d C n x q st fd ps ∧ ModOk K mg W G C) (⟨_, _, _, _, _, _, _, D532, M532⟩) (nk_cons (R := fun f d => ∃ C n x q st fd ps, DefOk K mg W G f d C n x q st fd ps ∧ ModOk K mg W G C) (⟨_, _, _, _, _, _, _, D659, M659⟩) (nk_cons (R := fun f d => ∃ C n x q st fd ps, DefOk K mg W G f d C n x q st fd ps ∧ ModOk K mg W G C) (⟨_, _, _, _, _, _, _, D660, M660⟩) (nk_cons (R := fun f d => ∃ C n x q st fd ps, DefOk K mg W G f d C n x q st fd ps ∧ ModOk K mg W G C) (⟨_, _, _, _, _, _, _, D661, M661⟩) (nk_cons (R := fun f d => ∃ C n x q st fd ps, DefOk K mg W G f d C n x q st fd ps ∧ ModOk K mg W G C) (⟨_, _, _, _, _, _, _, D662, M662⟩) (nk_cons (R := fun f d => ∃ C n x q st fd ps, DefOk K mg W G f d C n x q st fd ps ∧ ModOk K mg W G C) (⟨_, _, _, _, _, _, _, D1, M1⟩) (nk_cons (R := fun f d => ∃ C n x q st fd ps, DefOk K mg W G f d C n x q st fd ps ∧ ModOk K mg W G C) (⟨_, _, _, _, _, _, _, D2, M2⟩) (nk_nil)))))))))))))))))))))))))))))))))))))
  exact ⟨_, fun s v => .of_eq rfl, fun base _ _ => law_fn (W := W) (G := G) rfl (law_at (P := l.prog) (w := w) (base := base) rfl rfl hd (k := 199) (f := 2) (d := d2) rfl rfl D2 M2) hlaw⟩
end Law
namespace Law
open Z
set_option maxHeartbeats 2000000
theorem vg : VG G := ⟨rfl, rfl, rfl, rfl, rfl, rfl, rfl, rfl, rfl, rfl, rfl, rfl, rfl, rfl, rfl, rfl, rfl, rfl, rfl, rfl, rfl, rfl, rfl, rfl, rfl, rfl, rfl⟩
theorem lg : LG G := ⟨rfl, rfl, rfl, rfl, rfl, rfl, rfl⟩
abbrev glB : Env → Sto → RS := exs G (run G 198) [.ifs (.and (.bf (.isinst [0]) false [.var 3]) (.call 501 [.var 0, .con (.int 2)])) [.asg (.var 3) (.op (.mul) (.op (.sub) (.op (.pow) (.con (.int 10)) (.con (.int 15))) (.var 3)) (.op (.sub) (.con (.int 1)) (.op (.mul) (.con (.int 2)) (.call 501 [.var 0, .con (.int 2)]))))] [], .expr (.bm (.append) (.var 2) [.var 3])]
theorem gl_loop (a1 : Option Vl) {R : Nat} (hR0 : R ≠ 0) : ∀ (post done : List Va) (T : Sto) (cl : Cell) (x3 : Option Vl), T[0]? = some cl → DrawC cl → T[R]? = some (.lst (done.map (Vl.d ∘ Va.d))) → (∀ v ∈ post, v.ok ∧ v.sm) → (∀ v ∈ done, v.ok) → done.length + post.length ≤ 100 →
    ∃ (vs : List Va) (T' : Sto) (cl' : Cell) (y3 : Option Vl), fors glB (.var 3) (post.map (Vl.d ∘ Va.d)) [some (.p 0), a1, some (.p R), x3] T = .nx [some (.p 0), a1, some (.p R), y3] T' ∧ T'[0]? = some cl' ∧ DrawC cl' ∧ T'[R]? = some (.lst (vs.map (Vl.d ∘ Va.d))) ∧ vs.length = done.length + post.length ∧ ∀ v ∈ vs, v.ok
  | [], done, T, cl, x3, h0, hd, hR, _, hk, hl => ⟨done, T, cl, x3, rfl, h0, hd, hR, rfl, hk⟩
  | v :: post, done, T, cl, x3, h0, hd, hR, hv, hk, hl => by
    simp only [List.length_cons] at hl
    obtain ⟨v1, v2⟩ := hv v (by simp)
    have l0 : 0 < T.length := (List.getElem?_eq_some_iff.mp h0).1
    have lR : R < T.length := (List.getElem?_eq_some_iff.mp hR).1
    have hz : done.length < 16777216 := by omega
    -- one turn: the value or a great one
    have one : ∃ (u : Va) (T1 : Sto) (c1 : Cell), glB [some (.p 0), a1, some (.p R), some (.d v.d)] T = .nx [some (.p 0), a1, some (.p R), some (.d u.d)] (T1.set R (.lst ((done ++ [u]).map (Vl.d ∘ Va.d)))) ∧ T1[0]? = some c1 ∧ DrawC c1 ∧ T1.length = T.length ∧ u.ok := by
      have hap : ∀ (u : Va) (T : Sto), T[R]? = some (.lst (done.map (Vl.d ∘ Va.d))) → mAppend (.p R) (.d u.d) T = .ok (.d .non) (T.set R (.lst ((done ++ [u]).map (Vl.d ∘ Va.d)))) := fun u T h => by
        simp [mAppend, h, hz]
      have hlo : ∀ (T : Sto), T[R]? = some (.lst (done.map (Vl.d ∘ Va.d))) → listOf (.p R) T = some (done.map (Vl.d ∘ Va.d)) := fun T h => by simp [listOf, h]
      cases v with
      | non =>
        refine ⟨.non, T, cl, ?_, h0, hd, rfl, trivial⟩
        have ap := hap .non T hR
        have lo := hlo T hR
        simp [Va.d] at ap
        simp [glB, Va.d, ap, lo]
      | str s =>
        refine ⟨.str s, T, cl, ?_, h0, hd, rfl, v1⟩
        have ap := hap (.str s) T hR
        have lo := hlo T hR
        simp [Va.d] at ap
        simp [glB, Va.d, ap, lo]
      | int i =>
        have s1 := v2.1
        have s2 := v2.2
        obtain ⟨w, c1, e1, d1, p1, q1⟩ := next_run (G := G) (k := 197) (f := 501) rfl (m := 2) (by decide) (by decide) h0 hd
        have g1 : ∀ c : Cell, (T.set 0 c)[0]? = some c := fun c => List.getElem?_set_self l0
        have gR : ∀ c : Cell, (T.set 0 c)[R]? = some (.lst (done.map (Vl.d ∘ Va.d))) := fun c => by rw [List.getElem?_set_ne (by omega)]; exact hR
        by_cases w0 : w = 0
        · subst w0
          refine ⟨.int i, T.set 0 c1, c1, ?_, g1 c1, d1, by simp, v1⟩
          have ap := hap (.int i) (T.set 0 c1) (gR c1)
          have lo := hlo (T.set 0 c1) (gR c1)
          simp [Va.d] at ap
          simp [glB, Va.d, e1, ap, lo]
        · obtain ⟨z, c2, e2, d2, p2, q2⟩ := next_run (G := G) (k := 197) (f := 501) rfl (m := 2) (by decide) (by decide) (g1 c1) d1
          rw [List.set_set] at e2
          have w1 : (w != 0) = true := by simpa using w0
          have cp : cPow 10 15 = true := by decide
          have cm : ∀ x : Int, cMul x (1 - 2 * z) = true := fun x => by
            have : z = 0 ∨ z = 1 := by omega
            rcases this with rfl | rfl <;> simp [cMul]
          have cm2 : cMul 2 z = true := by simp [cMul]
          refine ⟨.int ((1000000000000000 - i) * (1 - 2 * z)), T.set 0 c2, c2, ?_, g1 c2, d2, by simp, ?_⟩
          · have ap := hap (.int ((1000000000000000 - i) * (1 - 2 * z))) (T.set 0 c2) (gR c2)
            have lo := hlo (T.set 0 c2) (gR c2)
            simp [Va.d] at ap
            simp [glB, Va.d, e1, w1, e2, cp, cm, cm2, ap, lo]
          · have : z = 0 ∨ z = 1 := by omega
            rcases this with rfl | rfl
            · exact ⟨by omega, by omega⟩
            · exact ⟨by omega, by omega⟩
    obtain ⟨u, T1, c1, e1, k1, d1, len1, o1⟩ := one
    have lR1 : R < T1.length := by omega
    obtain ⟨vs, T2, c2, y3, e2, k2, d2, r2, l2, o2⟩ := gl_loop a1 hR0 post (done ++ [u]) (T1.set R (.lst ((done ++ [u]).map (Vl.d ∘ Va.d)))) c1 (some (.d u.d)) (by rw [List.getElem?_set_ne hR0]; exact k1) d1 (List.getElem?_set_self lR1) (fun y hy => hv y (List.mem_cons_of_mem _ hy)) (fun y hy => by
      rcases List.mem_append.mp hy with z | z
      · exact hk y z
      · rw [List.mem_singleton.mp z]; exact o1) (by simp; omega)
    refine ⟨vs, T2, c2, y3, ?_, k2, d2, r2, by rw [l2]; simp; omega, o2⟩
    rw [List.map_cons, fors_var]
    have e' : glB ([some (.p 0), a1, some (.p R), x3].set 3 (some ((Vl.d ∘ Va.d) v))) T = _ := e1
    rw [e', forNx_nx]
    exact e2
theorem great_run {r : List Va} (hr : ∀ v ∈ r, v.ok ∧ v.sm) (hl : r.length ≤ 10) {T : Sto} {cl : Cell} (h0 : T[0]? = some cl) (hd : DrawC cl) : ∃ (vs : List Va) (T' : Sto) (cl' : Cell), run G 199 1 [.p 0, .d (.tup (r.map Va.d))] T = .ok (.d (.tup (vs.map Va.d))) T' ∧ T'[0]? = some cl' ∧ DrawC cl' ∧ vs.length = r.length ∧ ∀ v ∈ vs, v.ok := by
  have l0 : 0 < T.length := (List.getElem?_eq_some_iff.mp h0).1
  obtain ⟨vs, T', cl', y3, e1, k1, d1, r1, l1, o1⟩ := gl_loop (some (.d (.tup (r.map Va.d)))) (R := T.length) (by omega) r [] (T ++ [.lst []]) cl none (by rw [List.getElem?_append_left l0]; exact h0) hd (by simp) hr (by simp) (by simp; omega)
  refine ⟨vs, T', cl', ?_, k1, d1, by simpa using l1, o1⟩
  have hb : bTuple (.p T.length) T' = .ok (.d (.tup (vs.map Va.d))) T' := by
    simp [bTuple, listOf, r1]
  rw [run_keep (d := Law.d1) rfl rfl rfl]
  simp [Law.d1, Law.b1, e1, hb]
abbrev rdB : Env → Sto → RS := exs G (run G 199) [.asg (.var 5) (.call 657 [.var 1, .var 2, .op (.add) (.con (.int 1)) (.call 501 [.var 1, .con (.int 4)])]), .asg (.var 6) (.rep [.var 5, .var 3]), .asg (.var 7) (.call 662 [.var 5, .var 3]), .ifs (.or (.not (.call 507 [.call 449 [.var 5, .var 3], .var 7])) (.cmp (.ne) (.rep [.var 5, .var 3]) (.var 6))) [.ret (.con (.bl false))] [], .ifs (.not (.call 507 [.call 430 [.var 7], .cmp (.is) (.call 658 [.var 7]) (.con (.bl true))])) [.ret (.con (.bl false))] []]
theorem round (ns : List Int) {r : List Va} (hr : ∀ v ∈ r, v.ok) (hl : r.length ≤ 3) {T : Sto} {cl : Cell} (h0 : T[0]? = some cl) (hd : DrawC cl) (x4 x5 x6 x7 : Option Vl) :
    ∃ (T' : Sto) (cl' : Cell) (y5 y6 y7 : Option Vl), rdB [some (.d (.scr ns)), some (.p 0), some (.d (.int (r.length : Int))), some (.d (.tup (r.map Va.d))), x4, x5, x6, x7] T = .nx [some (.d (.scr ns)), some (.p 0), some (.d (.int (r.length : Int))), some (.d (.tup (r.map Va.d))), x4, y5, y6, y7] T' ∧ T'[0]? = some cl' ∧ DrawC cl' := by
  have l0 : 0 < T.length := (List.getElem?_eq_some_iff.mp h0).1
  have gs : ∀ c : Cell, (T.set 0 c)[0]? = some c := fun c => List.getElem?_set_self l0
  obtain ⟨v, c1, e1, d1, p1, q1⟩ := next_run (G := G) (k := 198) (f := 501) rfl (m := 4) (by decide) (by decide) h0 hd
  obtain ⟨x, c2, e2, d2, i2, h2⟩ := expr_run (G := G) (c := 0) rfl rfl rfl (w := r.length) (by omega) (v.toNat + 1) (T.set 0 c1) c1 199 (gs c1) d1 (by omega)
  rw [List.set_set] at e2
  have w1 : ((v.toNat + 1 : Nat) : Int) = 1 + v := by omega
  rw [w1] at e2
  have du := due_run lg hr x 199 (T.set 0 c2) i2 (by omega)
  have ev := ev_run vg hr x 199 (T.set 0 c2) i2 (by omega)
  obtain ⟨SH, rp⟩ := rep_xr hr (by omega) i2 (by omega)
  have ok := evX_ok hr x i2
  have it := isT_run (G := G) (k := 198) (S := T.set 0 c2) vg (evX r x)
  have kn := known_run (G := G) (k := 198) (S := T.set 0 c2) lg (evX r x)
  have sm1 := same_run (G := G) (f := 507) rfl 0 (evX r x).d (Va.okS _) 198 (by omega) (T.set 0 c2)
  have sm2 := same_run (G := G) (f := 507) rfl 0 (.bl (decide (tr (evX r x) = some true))) rfl 198 (by omega) (T.set 0 c2)
  refine ⟨T.set 0 c2, c2, some (.d x.enc), some (.d (.str SH)), some (.d (evX r x).d), ?_, gs c2, d2⟩
  generalize x.enc = X at *
  have hvl : (r.map Va.d) = r.map Va.d := rfl
  generalize tr (evX r x) = p at *
  generalize (evX r x).d = w at *
  generalize r.map Va.d = RD at *
  match p with
  | none => simp [obD] at kn it sm2; simp [rdB, e1, e2, du, ev, rp, sm1, it, kn, sm2]
  | some false => simp [obD] at kn it sm2; simp [rdB, e1, e2, du, ev, rp, sm1, it, kn, sm2]
  | some true => simp [obD] at kn it sm2; simp [rdB, e1, e2, du, ev, rp, sm1, it, kn, sm2]
theorem law_true : ∀ ns : List Int, ns.length ≤ 63 → ∃ S', run G 200 2 [.d (.scr ns)] [] = .ok (.d (.bl true)) S' := by
  intro ns hns
  obtain ⟨c0, e0, d0'⟩ := draw_run (G := G) (k := 198) (f := 500) rfl ns (by omega) []
  obtain ⟨v1, c1, e1, d1, p1, q1⟩ := next_run (G := G) (k := 198) (f := 501) rfl (m := 4) (by decide) (by decide) (S := [c0]) (n := 0) rfl d0'
  obtain ⟨r, c2, e2, d2, l2, o2⟩ := cells_run (G := G) (k := 197) (c := 0) (i := 4) rfl rfl (ρ := [some (.d (.scr ns)), some (.p 0), some (.d (.int v1)), none, none, none, none, none]) rfl (by decide) (rngs 0 v1) [] [c1] c1 rfl d1 (by simp [rngs]; omega)
  have hr0 : r.length = v1.toNat := by rw [l2]; simp [rngs]
  obtain ⟨v2, c3, e3, d3, p3, q3⟩ := next_run (G := G) (k := 198) (f := 501) rfl (m := 4) (by decide) (by decide) (S := [c2]) (n := 0) rfl d2
  simp at e0 e1 e2 e3
  -- the row: as drawn, or with great ones
  have row : ∃ (r' : List Va) (T : Sto) (cl : Cell), exs G (run G 199) (b2.take 4) [some (.d (.scr ns)), none, none, none, none, none, none, none] [] = .nx [some (.d (.scr ns)), some (.p 0), some (.d (.int v1)), some (.d (.tup (r'.map Va.d))), none, none, none, none] T ∧ T[0]? = some cl ∧ DrawC cl ∧ r'.length = v1.toNat ∧ ∀ v ∈ r', v.ok := by
    have wk : walkF .range [.d (.int v1)] [c1] = .ok (rngs 0 v1, none) [c1] := by
      have h := wk_rng (S := [c1]) (i := v1) (by omega) (by omega)
      rw [h]
      simp [rngs]
    have hq : r.length ≤ 16777216 := by omega
    have bt : ∀ (xs : List D) (S : Sto), bTuple (.d (.lst xs)) S = .ok (.d (.tup xs)) S := fun xs S => by simp [bTuple, listOf]
    by_cases z : v2 = 0
    · subst z
      obtain ⟨r', T', cl', e4, k4, d4, l4, o4⟩ := great_run o2 (by omega) (T := [c3]) rfl d3
      refine ⟨r', T', cl', ?_, k4, d4, by omega, o4⟩
      simp [b2, e0, e1, wk, e2, hq, bt, e3, e4]
    · refine ⟨r, [c3], c3, ?_, rfl, d3, hr0, fun v hv => (o2 v hv).1⟩
      simp [b2, e0, e1, wk, e2, hq, bt, e3, z]
  obtain ⟨r', T0, cl0, e5, k5, d5, l5, o5⟩ := row
  have hw : (v1 : Int) = (r'.length : Int) := by omega
  rw [hw] at e5
  obtain ⟨T1, cl1, y5, y6, y7, r1, g1, b1'⟩ := round ns o5 (by omega) k5 d5 (some (.d (.int 0))) none none none
  obtain ⟨T2, cl2, z5, z6, z7, r2, g2, b2'⟩ := round ns o5 (by omega) g1 b1' (some (.d (.int 1))) y5 y6 y7
  obtain ⟨T3, cl3, w5, w6, w7, r3, g3, b3'⟩ := round ns o5 (by omega) g2 b2' (some (.d (.int 2))) z5 z6 z7
  rw [run_alone (d := Law.d2) rfl rfl rfl rfl]
  dsimp only [Law.d2]
  rw [exs_split 4 b2]
  have wk : walkF .range [.d (.int 3)] T0 = .ok ([.d (.int 0), .d (.int 1), .d (.int 2)], none) T0 := rfl
  have hfo : fors rdB (.var 4) [.d (.int 0), .d (.int 1), .d (.int 2)] [some (.d (.scr ns)), some (.p 0), some (.d (.int (r'.length : Int))), some (.d (.tup (r'.map Va.d))), none, none, none, none] T0 = .nx [some (.d (.scr ns)), some (.p 0), some (.d (.int (r'.length : Int))), some (.d (.tup (r'.map Va.d))), some (.d (.int 2)), w5, w6, w7] T3 := by
    rw [fors_var]
    have q1 : rdB ([some (.d (.scr ns)), some (.p 0), some (.d (.int (r'.length : Int))), some (.d (.tup (r'.map Va.d))), none, none, none, none].set 4 (some (.d (.int 0)))) T0 = _ := r1
    rw [q1, forNx_nx, fors_var]
    have q2 : rdB ([some (.d (.scr ns)), some (.p 0), some (.d (.int (r'.length : Int))), some (.d (.tup (r'.map Va.d))), some (.d (.int 0)), y5, y6, y7].set 4 (some (.d (.int 1)))) T1 = _ := r2
    rw [q2, forNx_nx, fors_var]
    have q3 : rdB ([some (.d (.scr ns)), some (.p 0), some (.d (.int (r'.length : Int))), some (.d (.tup (r'.map Va.d))), some (.d (.int 1)), z5, z6, z7].set 4 (some (.d (.int 2)))) T2 = _ := r3
    rw [q3, forNx_nx]
    rfl
  simp only [List.map_cons, List.map_nil, List.cons_append, List.nil_append, List.replicate] at e5 ⊢
  simp [e5]
  generalize r'.map Va.d = RD at *
  simp [b2, wk]
  simp [hfo]
end Law
open PySem PySem.W PyProof.Rows in
set_option maxRecDepth 100000 in
set_option maxHeartbeats 0 in
theorem PySem.Challenge.cw_lineworks_k51_expressions_are_evaluated_holds : PySem.Challenge.rw_lineworks_k51_expressions_are_evaluated.Holds := by
  w_on; o_law; k_head; (case hw => w_witness2)
  k_fill
  refine Z.walk (l := PySem.Challenge.rw_lineworks_k51_expressions_are_evaluated) rfl rfl (Z.room_all (k := 201) (by decide)) (fun w h Y => PySem.W.kIn_of Y) ?F
  case F =>
    intro w mg fa h KX GN hmg
    refine' Law.all_mk KX GN hmg ?a426 ?l426 ?e426 ?p426 ?a428 ?l428 ?e428 ?p428 ?a429 ?l429 ?e429 ?p429 ?a430 ?l430 ?e430 ?p430 ?a431 ?l431 ?e431 ?p431 ?a432 ?l432 ?e432 ?p432 ?a433 ?l433 ?e433 ?p433 ?a434 ?l434 ?e434 ?p434 ?a435 ?l435 ?e435 ?p435 ?a436 ?l436 ?e436 ?p436 ?a437 ?l437 ?e437 ?p437 ?a438 ?l438 ?e438 ?p438 ?a439 ?l439 ?e439 ?p439 ?a440 ?l440 ?e440 ?p440 ?a441 ?l441 ?e441 ?p441 ?a442 ?l442 ?e442 ?p442 ?a443 ?l443 ?e443 ?p443 ?a444 ?l444 ?e444 ?p444 ?a445 ?l445 ?e445 ?p445 ?a446 ?l446 ?e446 ?p446 ?a447 ?l447 ?e447 ?p447 ?a448 ?l448 ?e448 ?p448 ?a449 ?l449 ?e449 ?p449 ?a500 ?l500 ?e500 ?p500 ?a501 ?l501 ?e501 ?p501 ?a507 ?l507 ?e507 ?p507 ?a0 ?l0 ?e0 ?p0 ?a531 ?l531 ?e531 ?p531 ?a657 ?l657 ?e657 ?p657 ?a658 ?l658 ?e658 ?p658 ?a532 ?l532 ?e532 ?p532 ?a659 ?l659 ?e659 ?p659 ?a660 ?l660 ?e660 ?p660 ?a661 ?l661 ?e661 ?p661 ?a662 ?l662 ?e662 ?p662 ?a1 ?l1 ?e1 ?p1 ?a2 ?l2 ?e2 ?p2 ?qQ139 ?qQ140 ?rQ140 ?sQ140 ?vQ140 ?xQ140 ?yQ140 ?qQ141 ?rQ141 ?sQ141 ?vQ141 ?xQ141 ?yQ141 ?qQ142 ?rQ142 ?sQ142 ?vQ142 ?xQ142 ?yQ142 ?z0 ?z1 ?z2 ?z3 ?z4 ?z5 ?z6 ?z7 ?z8 ?z9 ?z10 Law.law_true
    (case a426 => k_is)
    (case l426 => k_is)
    (case e426 => k_is)
    (case p426 => k_is)
    (case a428 => k_is)
    (case l428 => k_is)
    (case e428 => k_is)
    (case p428 => k_is)
    (case a429 => k_is)
    (case l429 => k_is)
    (case e429 => k_is)
    (case p429 => k_is)
    (case a430 => k_is)
    (case l430 => k_is)
    (case e430 => k_is)
    (case p430 => k_is)
    (case a431 => k_is)
    (case l431 => k_is)
    (case e431 => k_is)
    (case p431 => k_is)
    (case a432 => k_is)
    (case l432 => k_is)
    (case e432 => k_is)
    (case p432 => k_is)
    (case a433 => k_is)
    (case l433 => k_is)
    (case e433 => k_is)
    (case p433 => k_is)
    (case a434 => k_is)
    (case l434 => k_is)
    (case e434 => k_is)
    (case p434 => k_is)
    (case a435 => k_is)
    (case l435 => k_is)
    (case e435 => k_is)
    (case p435 => k_is)
    (case a436 => k_is)
    (case l436 => k_is)
    (case e436 => k_is)
    (case p436 => k_is)
    (case a437 => k_is)
    (case l437 => k_is)
    (case e437 => k_is)
    (case p437 => k_is)
    (case a438 => k_is)
    (case l438 => k_is)
    (case e438 => k_is)
    (case p438 => k_is)
    (case a439 => k_is)
    (case l439 => k_is)
    (case e439 => k_is)
    (case p439 => k_is)
    (case a440 => k_is)
    (case l440 => k_is)
    (case e440 => k_is)
    (case p440 => k_is)
    (case a441 => k_is)
    (case l441 => k_is)
    (case e441 => k_is)
    (case p441 => k_is)
    (case a442 => k_is)
    (case l442 => k_is)
    (case e442 => k_is)
    (case p442 => k_is)
    (case a443 => k_is)
    (case l443 => k_is)
    (case e443 => k_is)
    (case p443 => k_is)
    (case a444 => k_is)
    (case l444 => k_is)
    (case e444 => k_is)
    (case p444 => k_is)
    (case a445 => k_is)
    (case l445 => k_is)
    (case e445 => k_is)
    (case p445 => k_is)
    (case a446 => k_is)
    (case l446 => k_is)
    (case e446 => k_is)
    (case p446 => k_is)
    (case a447 => k_is)
    (case l447 => k_is)
    (case e447 => k_is)
    (case p447 => k_is)
    (case a448 => k_is)
    (case l448 => k_is)
    (case e448 => k_is)
    (case p448 => k_is)
    (case a449 => k_is)
    (case l449 => k_is)
    (case e449 => k_is)
    (case p449 => k_is)
    (case a500 => k_is)
    (case l500 => k_is)
    (case e500 => k_is)
    (case p500 => k_is)
    (case a501 => k_is)
    (case l501 => k_is)
    (case e501 => k_is)
    (case p501 => k_is)
    (case a507 => k_is)
    (case l507 => k_is)
    (case e507 => k_is)
    (case p507 => k_is)
    (case a0 => k_is)
    (case l0 => k_is)
    (case e0 => k_is)
    (case p0 => k_is)
    (case a531 => k_is)
    (case l531 => k_is)
    (case e531 => k_is)
    (case p531 => k_is)
    (case a657 => k_is)
    (case l657 => k_is)
    (case e657 => k_is)
    (case p657 => k_is)
    (case a658 => k_is)
    (case l658 => k_is)
    (case e658 => k_is)
    (case p658 => k_is)
    (case a532 => k_is)
    (case l532 => k_is)
    (case e532 => k_is)
    (case p532 => k_is)
    (case a659 => k_is)
    (case l659 => k_is)
    (case e659 => k_is)
    (case p659 => k_is)
    (case a660 => k_is)
    (case l660 => k_is)
    (case e660 => k_is)
    (case p660 => k_is)
    (case a661 => k_is)
    (case l661 => k_is)
    (case e661 => k_is)
    (case p661 => k_is)
    (case a662 => k_is)
    (case l662 => k_is)
    (case e662 => k_is)
    (case p662 => k_is)
    (case a1 => k_is)
    (case l1 => k_is)
    (case e1 => k_is)
    (case p1 => k_is)
    (case a2 => k_is)
    (case l2 => k_is)
    (case e2 => k_is)
    (case p2 => k_is)
    (case qQ139 => k_is)
    (case qQ140 => k_is)
    (case rQ140 => k_is)
    (case sQ140 => exact ⟨⟨_, _, rfl, rfl⟩, ⟨_, _, rfl, rfl⟩, ⟨_, _, rfl, rfl⟩, ⟨_, _, rfl, rfl⟩, trivial⟩)
    (case vQ140 => exact rfl)
    (case xQ140 => exact rfl)
    (case yQ140 => exact rfl)
    (case qQ141 => k_is)
    (case rQ141 => k_is)
    (case sQ141 => exact ⟨⟨_, _, rfl, rfl⟩, ⟨_, _, rfl, rfl⟩, ⟨_, _, rfl, rfl⟩, ⟨_, _, rfl, rfl⟩, ⟨_, _, rfl, rfl⟩, trivial⟩)
    (case vQ141 => exact rfl)
    (case xQ141 => exact rfl)
    (case yQ141 => exact rfl)
    (case qQ142 => k_is)
    (case rQ142 => k_is)
    (case sQ142 => exact ⟨⟨_, _, rfl, rfl⟩, ⟨_, _, rfl, rfl⟩, ⟨_, _, rfl, rfl⟩, ⟨_, _, rfl, rfl⟩, ⟨_, _, rfl, rfl⟩, trivial⟩)
    (case vQ142 => exact rfl)
    (case xQ142 => exact rfl)
    (case yQ142 => exact rfl)
    (case z0 => k_is)
    (case z1 => k_is)
    (case z2 => k_is)
    (case z3 => k_is)
    (case z4 => k_is)
    (case z5 => k_is)
    (case z6 => k_is)
    (case z7 => k_is)
    (case z8 => k_is)
    (case z9 => k_is)
    (case z10 => k_is)
#print axioms PySem.Challenge.cw_lineworks_k51_expressions_are_evaluated_holds

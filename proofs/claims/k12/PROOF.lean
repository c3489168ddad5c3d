import PyProof.Rows.All
import Wide.All
import OpenK.AllK
import Wide.FinOn
import KE.DataEq
import KE.DataCmp
import KE.SortData
import HandS.Base
import HandS.Call
import HandS.List
import HandS.Wide
import HandS.Comp
import HandS.Words
import HandS.WordsList
import HandS.Exc
import HandS.ExcOwn
import HandS.ExcCtx
import HandS.HotCalls
import HandS.IsInst
import HandS.Iter
import KE.KTupSum
import HandS.TupAny
import HandS.TupMul
import HandS.Style
import HandS.SetFor
import HandS.Dict
import KE.KExcIs
import HandS.Zip
import KE.GoesMore
import HandS.Defaults
import HandS.Ends
import PyProof.PassesOwn
import PyProof.ReprRoads
import HandS.Sort
import HandS.Text
import KE.KRevSl
import HandS.ExcBuiltin
import HandS.More
import HandS.WordsExc
import HandS.Head0
import HandS.Head1
import HandS.Head2
import HandS.HeadEnd
import HandS.HeadHook1
import HandS.HeadHook2
import PySem.Challenge.RW_facecounts_k12_even_rows_and_steps
set_option Elab.async false
set_option linter.all false
set_option maxRecDepth 100000
set_option maxHeartbeats 4000000
/-! the pure language and what it computes -/
namespace Fc
open PySem

abbrev D := PyData

/-- what an expression gives -/
inductive Vl where
  | dat (d : D)
  | newL (xs : List D)
  | newD (kvs : List (D × D))
  | slot (i : Nat)
  | fn (f : Nat)
  | exc (c : Nat)
  | scr (ns : List Int)

/-- what a local name holds -/
inductive B where
  | un
  | dat (d : D)
  | lst (xs : List D)
  | dct (kvs : List (D × D))
  | io (xs : List D)
  | fn (f : Nat)
  | exc (c : Nat)
  | scr (ns : List Int)

abbrev St := List B

inductive R (α : Type) where
  | ok (a : α) (s : St)
  | exc (c : Nat) (s : St)
  | bad

/-- what a call gives: a value and what the in-out list holds -/
inductive Out where
  | ok (v : Vl) (io : List D)
  | exc (c : Nat) (io : List D)
  | bad

/-- what a call is given -/
inductive Ar where
  | dat (d : D)
  | fn (f : Nat)
  | io (xs : List D)
  | exc (c : Nat)
  | scr (ns : List Int)

inductive Fl where
  | next
  | ret (v : Vl)

inductive Ty where
  | int | bool | str | list | tuple | dict
  | cls (c : Nat)
  | valueError
  deriving DecidableEq

inductive Op2 where
  | add | sub | mul | fdiv | mod | pow | shl | shr | band
  | eq | ne | lt | le | gt | ge
  | isin | notin
  | ix
  deriving DecidableEq

inductive Fn1 where
  | len | tuple | list | sorted | sum | max | min | all | any | repr | str | int
  | neg | notV | isN | notN | isT | notT | isF | notF | rev | nil_
  deriving DecidableEq

inductive Fn2 where
  | max | min | count | index
  deriving DecidableEq

inductive Tg where
  | name (i : Nat)
  | names (is : List Nat)

mutual
inductive E where
  | cst (d : D)
  | var (i : Nat)
  | gfn (f : Nat)
  | op2 (p : Op2) (a b : E)
  | fn1 (p : Fn1) (a : E)
  | fn2 (p : Fn2) (a b : E)
  | mth (p : Fn2) (a b : E)
  | isi (a : E) (ts : List Ty)
  | and_ (a b : E)
  | or_ (a b : E)
  | not_ (a : E)
  | ite_ (c a b : E)
  | chain (p q : Op2) (a b c : E)
  | lst (es : Es)
  | tup (es : Es)
  | emp
  | slcL (a lo : E)
  | slcU (a hi : E)
  | slcB (a lo hi : E)
  | comp (e : E) (own : List Nat) (tg : Tg) (it : It)
  | compIf (e : E) (own : List Nat) (tg : Tg) (it : It) (c : E)
  | call (f : Nat) (es : Es)
  | callIo (f : Nat) (i : Nat) (es : Es)
  | callV (i : Nat) (es : Es)
  | callS (fs : List Nat) (e : E) (es : Es)
  | inRng (neg : Bool) (a lo hi : E)
  | pop (i : Nat)
  | popAt (i : Nat) (e : E)
inductive Es where
  | nil
  | cons (e : E) (es : Es)
inductive It where
  | of (e : E)
  | rng1 (a : E)
  | rng2 (a b : E)
  | rng3 (a b c : E)
  | enum (e : E)
  | zip (a b : E)
  | wip (is : List Nat) (it : It)
end

mutual
inductive S where
  | set (i : Nat) (e : E)
  | unp (is : List Nat) (e : E)
  | par (i j : Nat) (a b : E)
  | drop (e : E)
  | ret (e : E)
  | ite_ (c : E) (a b : Ss)
  | for_ (tg : Tg) (it : It) (b : Ss)
  | while_ (c : E) (b : Ss)
  | raise_ (c : Nat)
  | app (i : Nat) (e : E)
  | ext (i : Nat) (e : E)
  | sti (i : Nat) (k e : E)
  | tryRet (b : Ss) (j : Nat) (f : Nat)
  | wipe (is : List Nat)
inductive Ss where
  | nil
  | cons (s : S) (ss : Ss)
end

/-! ### small helpers -/
/-- no dict within, at most n deep -/
def fit : Nat → D → Bool
  | _, .none => true
  | _, .bool _ => true
  | _, .int _ => true
  | _, .str _ => true
  | _, .dict _ => false
  | 0, .list _ => false
  | 0, .tuple _ => false
  | n + 1, .list xs => xs.all (fit n)
  | n + 1, .tuple xs => xs.all (fit n)

def peek (s : St) : Vl → Option D
  | .dat d => some d
  | .newL xs => some (.list xs)
  | .newD kvs => some (.dict kvs)
  | .slot i => match s[i]? with
    | some (.lst xs) => some (.list xs)
    | some (.io xs) => some (.list xs)
    | some (.dct kvs) => some (.dict kvs)
    | _ => none
  | .fn _ => none
  | .exc _ => none
  | .scr _ => none

/-- the value is held by something else from now on: nobody changes it any more -/
def frz (s : St) : Vl → Option (D × St)
  | .dat d => some (d, s)
  | .newL xs => some (.list xs, s)
  | .newD [] => some (.dict [], s)
  | .newD _ => none
  | .slot i => match s[i]? with
    | some (.lst xs) => some (.list xs, s.set i (.dat (.list xs)))
    | _ => none
  | .fn _ => none
  | .exc _ => none
  | .scr _ => none

def frzs (s : St) : List Vl → Option (List D × St)
  | [] => some ([], s)
  | v :: vs => match frz s v with
    | some (d, s1) => match frzs s1 vs with
      | some (ds, s2) => some (d :: ds, s2)
      | none => none
    | none => none

/-- a name is given another value (not the in-out list's) -/
def setB (s : St) (i : Nat) (b : B) : Option St := match s[i]? with
  | some (.io _) => none
  | some _ => some (s.set i b)
  | none => none

def setV (s : St) (i : Nat) : Vl → Option St
  | .newL xs => setB s i (.lst xs)
  | .newD kvs => setB s i (.dct kvs)
  | .fn f => setB s i (.fn f)
  | .exc _ => none
  | v => match frz s v with
    | some (d, s1) => setB s1 i (.dat d)
    | none => none

def setDs (s : St) : List Nat → List D → Option St
  | [], [] => some s
  | i :: is, d :: ds => match setB s i (.dat d) with
    | some s1 => setDs s1 is ds
    | none => none
  | _, _ => none

def setTg (s : St) : Tg → D → Option St
  | .name i, d => setB s i (.dat d)
  | .names is, .tuple ds => setDs s is ds
  | .names _, _ => none

/-! ### indices and slices -/
def cut (xs : List D) (lo hi : Option Int) : List D :=
  (xs.drop (HT.sIx xs.length 0 lo)).take (HT.sIx xs.length xs.length hi - HT.sIx xs.length 0 lo)

def ofB (b : Bool) : Option Vl := some (.dat (.bool b))

/-! ### operators by values -/
def mulOk (i j : Int) : Bool := decide (i.natAbs.log2 + j.natAbs.log2 < 1000000)
def divOk (j : Int) : Bool := decide (0 < j) && decide (j.natAbs.log2 < 9000)
def powOk (i j : Int) : Bool := decide (0 ≤ j) && decide (j ≤ 1000000) && decide (i.natAbs < 2 ^ 64)
def lenOk (n : Nat) : Bool := decide (n ≤ 1000000)

/-- may be compared by < -/
def ltOk (a b : D) : Bool := PySem.W.alike a b && fit 8 a && fit 8 b && (match a with | .none => false | _ => true)

def evAdd (a b : D) : Option Vl := match a, b with
  | .int i, .int j => some (.dat (.int (i + j)))
  | .list xs, .list ys => if lenOk (xs.length + ys.length) then some (.newL (xs ++ ys)) else none
  | .tuple xs, .tuple ys => if lenOk (xs.length + ys.length) then some (.dat (.tuple (xs ++ ys))) else none
  | .str x, .str y => if lenOk (x.length + y.length) then some (.dat (.str (x ++ y))) else none
  | _, _ => none
def evMul (a b : D) : Option Vl := match a, b with
  | .int i, .int j => if mulOk i j then some (.dat (.int (i * j))) else none
  | .list xs, .int k => if decide (k < 1000000) && decide (-1000000 < k) && lenOk (xs.length * k.toNat) then some (.newL (List.replicate k.toNat xs).flatten) else none
  | .tuple xs, .int k => if decide (k ≤ 1000) && decide (2 ≤ k) && decide (xs.length ≤ 1000) && !xs.isEmpty then some (.dat (.tuple (List.replicate k.toNat xs).flatten)) else none
  | _, _ => none
def evInt (C : Int → Int → Bool) (f : Int → Int → Int) (a b : D) : Option Vl := match a, b with
  | .int i, .int j => if C i j then some (.dat (.int (f i j))) else none
  | _, _ => none
def evLt (a b : D) : Option Vl := match a, b with
  | .int i, .int j => ofB (decide (i < j))
  | a, b => if ltOk a b then ofB (PySem.W.dataLt a b) else none
def evLe (a b : D) : Option Vl := match a, b with
  | .int i, .int j => ofB (decide (i ≤ j))
  | a, b => if ltOk a b then ofB (!PySem.W.dataLt b a) else none
def evGt (a b : D) : Option Vl := match a, b with
  | .int i, .int j => ofB (decide (j < i))
  | a, b => if ltOk a b then ofB (PySem.W.dataLt b a) else none
def evGe (a b : D) : Option Vl := match a, b with
  | .int i, .int j => ofB (decide (j ≤ i))
  | a, b => if ltOk a b then ofB (!PySem.W.dataLt a b) else none
def evIn (neg : Bool) (d c : D) : Option Vl := match c with
  | .list xs => if fit 8 d && xs.all (fit 8) then ofB (xor neg (xs.any fun y => PyData.eqv y d)) else none
  | .tuple xs => if fit 8 d && xs.all (fit 8) then ofB (xor neg (xs.any fun y => PyData.eqv y d)) else none
  | _ => none
def evIx (a b : D) : Option Vl := match a, b with
  | .list xs, .int i => (L2.atI xs i).map .dat
  | .tuple xs, .int i => (L2.atI xs i).map .dat
  | _, _ => none
def evEq (neg : Bool) (a b : D) : Option Vl := if fit 8 a && fit 8 b then ofB (xor neg (PyData.eqv a b)) else none

def evOp2 : Op2 → D → D → Option Vl
  | .add => evAdd
  | .sub => evInt (fun _ _ => true) fun i j => i - j
  | .mul => evMul
  | .fdiv => evInt (fun _ j => divOk j) fun i j => i / j
  | .mod => evInt (fun _ j => decide (0 < j)) fun i j => i % j
  | .pow => evInt powOk fun i j => i ^ j.toNat
  | .shl => evInt powOk fun i j => i * 2 ^ j.toNat
  | .shr => evInt (fun _ j => decide (0 ≤ j)) fun i j => i / 2 ^ j.toNat
  | .band => evInt (fun _ _ => true) Builtin.bitAnd
  | .eq => evEq false
  | .ne => evEq true
  | .lt => evLt
  | .le => evLe
  | .gt => evGt
  | .ge => evGe
  | .isin => evIn false
  | .notin => evIn true
  | .ix => evIx

def intsOf : List D → Option (List Int)
  | [] => some []
  | .int i :: r => match intsOf r with
    | some l => some (i :: l)
    | none => none
  | _ :: _ => none
def blsOf : List D → Option (List Bool)
  | [] => some []
  | .bool i :: r => match blsOf r with
    | some l => some (i :: l)
    | none => none
  | _ :: _ => none
def maxOf : List Int → Option Int
  | [] => none
  | x :: xs => some (xs.foldl max x)
def minOf : List Int → Option Int
  | [] => none
  | x :: xs => some (xs.foldl min x)

/-- repr may be asked: at most n deep, no dict but an empty one -/
def shw : Nat → D → Bool
  | _, .none => true
  | _, .bool _ => true
  | _, .int i => decide (i.natAbs.log2 < 1920)
  | _, .str _ => true
  | _, .dict kvs => kvs.isEmpty
  | 0, .list _ => false
  | 0, .tuple _ => false
  | n + 1, .list xs => xs.all (shw n)
  | n + 1, .tuple xs => xs.all (shw n)
mutual
/-- how long it is, at most -/
def siz : D → Nat
  | .none => 4
  | .bool _ => 5
  | .int i => if i.natAbs < 1000000000 then 12 else 1930
  | .str x => (reprText x).length
  | .list xs => 2 + sizA xs
  | .tuple xs => 3 + sizA xs
  | .dict _ => 2
def sizA : List D → Nat
  | [] => 0
  | x :: xs => siz x + 2 + sizA xs
end
def showOk (d : D) : Bool := shw 8 d && decide (siz d ≤ 16000000)

def evLen (d : D) : Option Vl := match d with
  | .list xs => some (.dat (.int xs.length))
  | .tuple xs => some (.dat (.int xs.length))
  | .str x => if lenOk x.length then some (.dat (.int x.length)) else none
  | _ => none
def evTup (d : D) : Option Vl := match d with
  | .list xs => some (.dat (.tuple xs))
  | .tuple xs => some (.dat (.tuple xs))
  | _ => none
def evLst (d : D) : Option Vl := match d with
  | .list xs => some (.newL xs)
  | .tuple xs => some (.newL xs)
  | _ => none
def evInts (f : List Int → Option Int) (d : D) : Option Vl := match d with
  | .list xs => match intsOf xs with
    | some ns => match f ns with
      | some m => some (.dat (.int m))
      | none => none
    | none => none
  | _ => none
/-- .. of a tuple, too -/
def evIntsT (f : List Int → Option Int) (d : D) : Option Vl := match d with
  | .tuple xs => evInts f (.list xs)
  | d => evInts f d
def evBls (f : List Bool → Bool) (d : D) : Option Vl := match d with
  | .list xs => match blsOf xs with
    | some bs => ofB (f bs)
    | none => none
  | _ => none
def evRepr (d : D) : Option Vl := if showOk d then some (.dat (.str d.shown)) else none
def evNeg (d : D) : Option Vl := match d with
  | .int i => some (.dat (.int (-i)))
  | _ => none
def evRev (d : D) : Option Vl := match d with
  | .list xs => some (.newL xs.reverse)
  | .tuple xs => some (.dat (.tuple xs.reverse))
  | _ => none
def evIntF (d : D) : Option Vl := match d with
  | .bool b => some (.dat (.int (if b then 1 else 0)))
  | .int i => some (.dat (.int i))
  | _ => none
def isNone : D → Bool
  | .none => true
  | _ => false
def evFn1 : Fn1 → D → Option Vl
  | .len => evLen
  | .tuple => evTup
  | .list => evLst
  | .sum => evIntsT fun ns => some ns.sum
  | .max => evIntsT maxOf
  | .min => evInts minOf
  | .all => evBls fun bs => bs.all id
  | .any => evBls fun bs => bs.any id
  | .repr => evRepr
  | .neg => evNeg
  | .isN => fun d => ofB (isNone d)
  | .notN => fun d => ofB (!isNone d)
  | .isT => fun d => match d with
    | .bool b => ofB b
    | _ => none
  | .notT => fun d => match d with
    | .bool b => ofB (!b)
    | _ => none
  | .isF => fun d => match d with
    | .bool b => ofB (!b)
    | _ => none
  | .notF => fun d => match d with
    | .bool b => ofB b
    | _ => none
  | .rev => evRev
  | .nil_ => fun d => match d with
    | .list xs => ofB xs.isEmpty
    | _ => none
  | .int => evIntF
  | _ => fun _ => none

/-- the first place of d in a list of flat things -/
def firstAt (d : D) : List D → Option Nat
  | [] => none
  | x :: xs => if PyData.eqv x d then some 0 else (firstAt d xs).map (· + 1)
def flatD : D → Bool
  | .none => true
  | .bool _ => true
  | .int _ => true
  | .str _ => true
  | _ => false

def evBest (f : Int → Int → Int) (a b : D) : Option Vl := match a, b with
  | .int i, .int j => some (.dat (.int (f i j)))
  | _, _ => none
def evCount (a d : D) : Option Vl := match a with
  | .list xs => if flatD d && xs.all flatD then some (.dat (.int ((xs.filter fun y => PyData.eqv y d).length : Nat))) else none
  | _ => none
def evIndex (a d : D) : Option Vl := match a with
  | .list xs => if flatD d && xs.all flatD then (firstAt d xs).map fun k => .dat (.int (k : Nat)) else none
  | _ => none
def evFn2 : Fn2 → D → D → Option Vl
  | .max => evBest fun i j => if j > i then j else i
  | .min => evBest fun i j => if j < i then j else i
  | .count => evCount
  | .index => evIndex

/-- a class that is asked for of data -/
def plainTy : Ty → Bool
  | .cls _ => false
  | .valueError => false
  | _ => true
/-- does a datum belong to a class -/
def isTy : D → Ty → Bool
  | .int _, .int => true
  | .bool _, .int => true
  | .bool _, .bool => true
  | .str _, .str => true
  | .list _, .list => true
  | .tuple _, .tuple => true
  | .dict _, .dict => true
  | _, _ => false
def isTys (d : D) (ts : List Ty) : Bool := ts.any (isTy d)
/-- does an exception of the class number c belong to a class -/
def excTy (c : Nat) : Ty → Bool
  | .cls k => k == c || k == 0
  | .valueError => true
  | _ => false

def truth : D → Option Bool
  | .bool b => some b
  | _ => none

/-! ### what it computes -/
def R.bind {α β : Type} (x : R α) (f : α → St → R β) : R β := match x with
  | .ok a s => f a s
  | .exc c s => .exc c s
  | .bad => .bad
def ofO {α : Type} (s : St) : Option α → R α
  | some a => .ok a s
  | none => .bad
def ofS {α : Type} (a : α) : Option St → R α
  | some s => .ok a s
  | none => .bad

def op2 (p : Op2) (v w : Vl) (s : St) : R Vl := match v with
  | .scr ns => match p, w with
    | .ix, .dat (.int i) => ofO s ((L2.atI ns i).map fun n => .dat (.int n))
    | _, _ => .bad
  | v => match peek s v, peek s w with
    | some d, some e => ofO s (evOp2 p d e)
    | _, _ => .bad
def fn1 (p : Fn1) (v : Vl) (s : St) : R Vl := match v with
  | .scr ns => match p with
    | .len => .ok (.dat (.int ns.length)) s
    | _ => .bad
  | v => match peek s v with
    | some d => ofO s (evFn1 p d)
    | none => .bad
def fn2 (p : Fn2) (v w : Vl) (s : St) : R Vl := match peek s v, peek s w with
  | some d, some e => ofO s (evFn2 p d e)
  | _, _ => .bad
def isi (v : Vl) (ts : List Ty) (s : St) : R Vl := match v with
  | .exc c => if ts.all fun t => !plainTy t then .ok (.dat (.bool (ts.any (excTy c)))) s else .bad
  | v => if ts.all plainTy then (match peek s v with
    | some d => .ok (.dat (.bool (isTys d ts))) s
    | none => .bad) else .bad
/-- a test's answer -/
def tru (v : Vl) (s : St) : R Bool := match peek s v with
  | some d => ofO s (truth d)
  | none => .bad
def intOf (v : Vl) (s : St) : R Int := match peek s v with
  | some (.int i) => .ok i s
  | _ => .bad
def cutV (v : Vl) (lo hi : Option Int) (s : St) : R Vl := match peek s v with
  | some (.list xs) => .ok (.newL (cut xs lo hi)) s
  | some (.tuple xs) => .ok (.dat (.tuple (cut xs lo hi))) s
  | _ => .bad

def seqOf : D → Option (List D)
  | .list xs => some xs
  | .tuple xs => some xs
  | _ => none
def tupOf : D → Option (List D)
  | .tuple xs => some xs
  | _ => none
def iotaI (lo : Int) (n : Nat) : List D := (List.range n).map fun k => .int (lo + (k : Nat))
def enumD (k : Nat) : List D → List D
  | [] => []
  | x :: xs => .tuple [.int (k : Nat), x] :: enumD (k + 1) xs
def zipD : List D → List D → List D
  | x :: xs, y :: ys => .tuple [x, y] :: zipD xs ys
  | _, _ => []
def rngOk (i : Int) : Bool := decide (-1000000 ≤ i) && decide (i ≤ 1000000)

/-- owned by a name -/
def owned : B → Bool
  | .lst _ => true
  | .dct _ => true
  | .io _ => true
  | _ => false
def wipeB (s : St) : List Nat → St
  | [] => s
  | i :: is => wipeB (s.set i .un) is
def ownOk (s : St) (own : List Nat) : Bool := own.all fun i => match s[i]? with
  | some b => !owned b
  | none => false
/-- the names of a comprehension are as they were ahead of it -/
def backB (s0 s : St) : List Nat → St
  | [] => s
  | i :: is => backB s0 (s.set i (s0[i]?.getD .un)) is

def args (s : St) : List Vl → Option (List Ar × St)
  | [] => some ([], s)
  | .fn f :: vs => match args s vs with
    | some (r, s1) => some (.fn f :: r, s1)
    | none => none
  | .scr ns :: vs => match args s vs with
    | some (r, s1) => some (.scr ns :: r, s1)
    | none => none
  | v :: vs => match frz s v with
    | some (d, s1) => match args s1 vs with
      | some (r, s2) => some (.dat d :: r, s2)
      | none => none
    | none => none

def retV (s : St) : Vl → Option Vl
  | .dat d => some (.dat d)
  | .newL xs => some (.newL xs)
  | .newD kvs => some (.newD kvs)
  | .slot i => match s[i]? with
    | some (.lst xs) => some (.newL xs)
    | some (.dct kvs) => some (.newD kvs)
    | _ => none
  | _ => none

def ofOut (s : St) : Out → R Vl
  | .ok v _ => .ok v s
  | .exc c _ => .exc c s
  | .bad => .bad
/-- behind a call with an in-out list from slot i -/
def ofOutIo (s : St) (i : Nat) : Out → R Vl
  | .ok v xs => .ok v (s.set i (match s[i]? with | some (.io _) => .io xs | _ => .lst xs))
  | .exc c xs => .exc c (s.set i (match s[i]? with | some (.io _) => .io xs | _ => .lst xs))
  | .bad => .bad

def ownL (s : St) (i : Nat) : Bool := match s[i]? with
  | some (.lst _) => true
  | some (.io _) => true
  | _ => false

section
variable (Φ : Nat → List Ar → Out)

def callF (f : Nat) (vs : List Vl) (s : St) : R Vl := match args s vs with
  | some (r, s1) => ofOut s1 (Φ f r)
  | none => .bad
def callIoF (f i : Nat) (vs : List Vl) (s : St) : R Vl := match args s vs with
  | some (r, s1) => match s1[i]? with
    | some (.lst xs) => ofOutIo s1 i (Φ f (.io xs :: r))
    | some (.io xs) => ofOutIo s1 i (Φ f (.io xs :: r))
    | _ => .bad
  | none => .bad

def loopC (turn : D → St → R (Option D)) : List D → List D → St → R (List D)
  | [], acc, s => .ok acc s
  | x :: xs, acc, s => match turn x s with
    | .ok (some d) s1 => loopC turn xs (acc ++ [d]) s1
    | .ok none s1 => loopC turn xs acc s1
    | _ => .bad

mutual
def dE : E → St → R Vl
  | .cst d, s => .ok (.dat d) s
  | .var i, s => match s[i]? with
    | some (.dat d) => .ok (.dat d) s
    | some (.lst _) => .ok (.slot i) s
    | some (.dct _) => .ok (.slot i) s
    | some (.io _) => .ok (.slot i) s
    | some (.fn f) => .ok (.fn f) s
    | some (.exc c) => .ok (.exc c) s
    | some (.scr ns) => .ok (.scr ns) s
    | _ => .bad
  | .gfn f, s => .ok (.fn f) s
  | .op2 p a b, s => (dE a s).bind fun v s1 => (dE b s1).bind fun w s2 => op2 p v w s2
  | .fn1 p a, s => (dE a s).bind fun v s1 => fn1 p v s1
  | .fn2 p a b, s => (dE a s).bind fun v s1 => (dE b s1).bind fun w s2 => fn2 p v w s2
  | .mth p a b, s => (dE a s).bind fun v s1 => match peek s1 v with
    | some (.list _) => (dE b s1).bind fun w s2 => fn2 p v w s2
    | _ => .bad
  | .isi a ts, s => (dE a s).bind fun v s1 => isi v ts s1
  | .and_ a b, s => (dE a s).bind fun v s1 => (tru v s1).bind fun c s2 => match c with
    | true => dE b s2
    | false => .ok (.dat (.bool false)) s2
  | .or_ a b, s => (dE a s).bind fun v s1 => (tru v s1).bind fun c s2 => match c with
    | true => .ok (.dat (.bool true)) s2
    | false => dE b s2
  | .not_ a, s => (dE a s).bind fun v s1 => (tru v s1).bind fun c s2 => .ok (.dat (.bool (!c))) s2
  | .ite_ c a b, s => (dE c s).bind fun v s1 => (tru v s1).bind fun c s2 => match c with
    | true => dE a s2
    | false => dE b s2
  | .chain p q a b c, s => (dE a s).bind fun v s1 => (dE b s1).bind fun w s2 => (op2 p v w s2).bind fun z s3 => (tru z s3).bind fun k s4 => match k with
    | true => (dE c s4).bind fun u s5 => op2 q w u s5
    | false => .ok (.dat (.bool false)) s4
  | .lst es, s => (dEs es s).bind fun vs s1 => match frzs s1 vs with
    | some (ds, s2) => if lenOk ds.length then .ok (.newL ds) s2 else .bad
    | none => .bad
  | .tup es, s => (dEs es s).bind fun vs s1 => match frzs s1 vs with
    | some (ds, s2) => if lenOk ds.length then .ok (.dat (.tuple ds)) s2 else .bad
    | none => .bad
  | .emp, s => .ok (.newD []) s
  | .slcL a lo, s => (dE a s).bind fun v s1 => (dE lo s1).bind fun w s2 => (intOf w s2).bind fun i s3 => cutV v (some i) none s3
  | .slcU a hi, s => (dE a s).bind fun v s1 => (dE hi s1).bind fun w s2 => (intOf w s2).bind fun i s3 => cutV v none (some i) s3
  | .slcB a lo hi, s => (dE a s).bind fun v s1 => (dE lo s1).bind fun w s2 => (intOf w s2).bind fun i s3 => (dE hi s3).bind fun z s4 => (intOf z s4).bind fun j s5 => cutV v (some i) (some j) s5
  | .comp e own tg it, s => (dIt it s).bind fun xs s1 => match ownOk s1 own with
    | true => match loopC (fun x s => match setTg s tg x with
        | some s2 => (dE e s2).bind fun v s3 => match frz s3 v with
          | some (d, s4) => .ok (some d) (wipeB s4 own)
          | none => .bad
        | none => .bad) xs [] (wipeB s1 own) with
      | .ok ds s5 => .ok (.newL ds) (backB s1 s5 own)
      | _ => .bad
    | false => .bad
  | .compIf e own tg it c, s => (dIt it s).bind fun xs s1 => match ownOk s1 own with
    | true => match loopC (fun x s => match setTg s tg x with
        | some s2 => (dE c s2).bind fun v s3 => (tru v s3).bind fun k s4 => match k with
          | true => (dE e s4).bind fun v s5 => match frz s5 v with
            | some (d, s6) => .ok (some d) (wipeB s6 own)
            | none => .bad
          | false => .ok none (wipeB s4 own)
        | none => .bad) xs [] (wipeB s1 own) with
      | .ok ds s5 => .ok (.newL ds) (backB s1 s5 own)
      | _ => .bad
    | false => .bad
  | .call f es, s => (dEs es s).bind fun vs s1 => callF Φ f vs s1
  | .callIo f i es, s => match ownL s i with
    | true => (dEs es s).bind fun vs s1 => callIoF Φ f i vs s1
    | false => .bad
  | .callV i es, s => match s[i]? with
    | some (.fn f) => (dEs es s).bind fun vs s1 => callF Φ f vs s1
    | _ => .bad
  | .callS fs e es, s => (dE e s).bind fun v s1 => (intOf v s1).bind fun i s2 => match L2.atI fs i with
    | some f => (dEs es s2).bind fun vs s3 => callF Φ f vs s3
    | none => .bad
  | .inRng neg a lo hi, s => (dE a s).bind fun v s1 => (intOf v s1).bind fun i s2 => (dE lo s2).bind fun w s3 => (intOf w s3).bind fun l s4 => (dE hi s4).bind fun z s5 => (intOf z s5).bind fun h s6 => .ok (.dat (.bool (xor neg (decide (l ≤ i ∧ i < h))))) s6
  | .pop i, s => match s[i]? with
    | some (.lst xs) => match xs[xs.length - 1]? with
      | some d => .ok (.dat d) (s.set i (.lst xs.dropLast))
      | none => .bad
    | _ => .bad
  | .popAt i e, s => match s[i]? with
    | some (.lst _) => (dE e s).bind fun v s1 => (intOf v s1).bind fun k s2 => match s2[i]? with
      | some (.lst xs) => match L2.ixN xs.length k with
        | some j => match xs[j]? with
          | some d => .ok (.dat d) (s2.set i (.lst (xs.eraseIdx j)))
          | none => .bad
        | none => .bad
      | _ => .bad
    | _ => .bad
def dEs : Es → St → R (List Vl)
  | .nil, s => .ok [] s
  | .cons e es, s => (dE e s).bind fun v s1 => (dEs es s1).bind fun vs s2 => .ok (v :: vs) s2
def dIt : It → St → R (List D)
  | .of e, s => (dE e s).bind fun v s1 => match frz s1 v with
    | some (d, s2) => ofO s2 (seqOf d)
    | none => .bad
  | .rng1 a, s => (dE a s).bind fun v s1 => (intOf v s1).bind fun i s2 => match rngOk i with
    | true => .ok (iotaI 0 i.toNat) s2
    | false => .bad
  | .rng2 a b, s => (dE a s).bind fun v s1 => (intOf v s1).bind fun i s2 => (dE b s2).bind fun w s3 => (intOf w s3).bind fun j s4 => match rngOk i && rngOk j with
    | true => .ok (iotaI i (j - i).toNat) s4
    | false => .bad
  | .rng3 a b c, s => .bad
  | .enum e, s => (dE e s).bind fun v s1 => match frz s1 v with
    | some (d, s2) => match seqOf d with
      | some xs => .ok (enumD 0 xs) s2
      | none => .bad
    | none => .bad
  | .zip a b, s => (dE a s).bind fun v s1 => (dE b s1).bind fun w s2 => match frz s2 v with
    | some (d, s3) => match frz s3 w with
      | some (e, s4) => match d, e with
        | .list xs, .list ys => .ok (zipD xs ys) s4
        | .tuple xs, .tuple ys => .ok (zipD xs ys) s4
        | _, _ => .bad
      | none => .bad
    | none => .bad
  | .wip is it, s => (dIt it s).bind fun xs s1 => .ok xs (wipeB s1 is)
end

def loopF (turn : D → St → R Fl) : List D → St → R Fl
  | [], s => .ok .next s
  | x :: xs, s => match turn x s with
    | .ok .next s1 => loopF turn xs s1
    | r => r
def loopW (test : St → R Bool) (turn : St → R Fl) : Nat → St → R Fl
  | 0, _ => .bad
  | n + 1, s => (test s).bind fun c s1 => match c with
    | true => match turn s1 with
      | .ok .next s2 => loopW test turn n s2
      | r => r
    | false => .ok .next s1

mutual
def dS : S → St → R Fl
  | .set i e, s => (dE Φ e s).bind fun v s1 => ofS .next (setV s1 i v)
  | .unp is e, s => (dE Φ e s).bind fun v s1 => match frz s1 v with
    | some (d, s2) => match tupOf d with
      | some ds => ofS .next (setDs s2 is ds)
      | none => .bad
    | none => .bad
  | .par i j a b, s => (dE Φ a s).bind fun v s1 => (dE Φ b s1).bind fun w s2 => match frz s2 v with
    | some (d, s3) => match frz s3 w with
      | some (e, s4) => ofS .next (setDs s4 [i, j] [d, e])
      | none => .bad
    | none => .bad
  | .drop e, s => (dE Φ e s).bind fun _ s1 => .ok .next s1
  | .ret e, s => (dE Φ e s).bind fun v s1 => .ok (.ret v) s1
  | .ite_ c a b, s => (dE Φ c s).bind fun v s1 => (tru v s1).bind fun k s2 => match k with
    | true => dSs a s2
    | false => dSs b s2
  | .for_ tg it b, s => (dIt Φ it s).bind fun xs s1 => loopF (fun x s => match setTg s tg x with
    | some s2 => dSs b s2
    | none => .bad) xs s1
  | .while_ c b, s => loopW (fun s => (dE Φ c s).bind fun v s1 => tru v s1) (fun s => dSs b s) 1000 s
  | .raise_ c, s => .exc c s
  | .app i e, s => match s[i]? with
    | some (.lst _) => (dE Φ e s).bind fun v s1 => match frz s1 v with
      | some (d, s2) => match s2[i]? with
        | some (.lst xs) => if lenOk (xs.length + 1) then .ok .next (s2.set i (.lst (xs ++ [d]))) else .bad
        | _ => .bad
      | none => .bad
    | _ => .bad
  | .ext i e, s => match s[i]? with
    | some (.lst _) => (dE Φ e s).bind fun v s1 => match frz s1 v with
      | some (.list ys, s2) => match s2[i]? with
        | some (.lst xs) => if lenOk (xs.length + ys.length) then .ok .next (s2.set i (.lst (xs ++ ys))) else .bad
        | _ => .bad
      | _ => .bad
    | _ => .bad
  | .sti i k e, s => (dE Φ e s).bind fun v s1 => match frz s1 v with
    | some (d, s2) => match ownL s2 i with
      | true => (dE Φ k s2).bind fun w s3 => (intOf w s3).bind fun n s4 => match s4[i]? with
        | some (.lst xs) => match L2.ixN xs.length n with
          | some j => .ok .next (s4.set i (.lst (xs.set j d)))
          | none => .bad
        | some (.io xs) => match L2.ixN xs.length n with
          | some j => .ok .next (s4.set i (.io (xs.set j d)))
          | none => .bad
        | _ => .bad
      | false => .bad
    | none => .bad
  | .tryRet b j f, s => match dSs b s with
    | .ok (.ret v) s1 => .ok (.ret v) s1
    | .exc c s1 => match decide (c < 17 ∧ j < s1.length), Φ f [.exc c] with
      | true, .ok v _ => .ok (.ret v) s1
      | _, _ => .bad
    | _ => .bad
  | .wipe is, s => .ok .next (wipeB s is)
def dSs : Ss → St → R Fl
  | .nil, s => .ok .next s
  | .cons x xs, s => match dS x s with
    | .ok .next s1 => dSs xs s1
    | r => r
end
end

/-! ### functions -/
structure Fd where
  np : Nat
  ns : Nat
  body : Ss

def arB : Ar → B
  | .dat d => .dat d
  | .fn f => .fn f
  | .io xs => .io xs
  | .exc c => .exc c
  | .scr ns => .scr ns
def ioOf (s : St) : List D := match s with
  | .io xs :: _ => xs
  | _ => []
def isIo : List Ar → Bool
  | .io _ :: _ => true
  | _ => false
/-- does the first slot still hold the in-out list -/
def ioS (s : St) : Bool := match s with
  | .io _ :: _ => true
  | _ => false
def endOf (b : Bool) (r : R Fl) : Out := match r with
  | .ok (.ret v) s => match ioS s == b, retV s v with
    | true, some v => .ok v (ioOf s)
    | _, _ => .bad
  | .ok .next s => match ioS s == b with
    | true => .ok (.dat .none) (ioOf s)
    | false => .bad
  | .exc c s => match ioS s == b with
    | true => .exc c (ioOf s)
    | false => .bad
  | .bad => .bad
/-- a call of the function number f, at most k calls deep -/
def dFun (P : Nat → Option Fd) : Nat → Nat → List Ar → Out
  | 0, _, _ => .bad
  | k + 1, f, as => match P f with
    | some d => if as.length = d.np then endOf (isIo as) (dSs (dFun P k) d.body (as.map arB ++ List.replicate (d.ns - d.np) .un)) else .bad
    | none => .bad
end Fc

/-! how the pure states lie in the heap -/
namespace Fc
open PySem PySem.Spec PyProof.Rows L2

/-- where functions, classes stand; what is pinned -/
structure Au where
  fa : Nat → Addr
  ea : Nat → Addr
  px : Addr → Nat → Prop
  io : Addr

mutual
inductive Dat (F : Hp) : V → D → Prop
  | non : Dat F .non .none
  | bl (b : Bool) : Dat F (.bl b) (.bool b)
  | int (i : Int) : Dat F (.int i) (.int i)
  | str (x : Str) : Dat F (.str x) (.str x)
  | lst {a : Addr} {xs : List V} {ds : List D} : F a = some (.lst xs) → DatL F xs ds → Dat F (.ref a) (.list ds)
  | tup {a : Addr} {xs : List V} {ds : List D} : F a = some (.tup xs) → DatL F xs ds → Dat F (.ref a) (.tuple ds)
  | dic {a : Addr} : F a = some (.dK []) → Dat F (.ref a) (.dict [])
inductive DatL (F : Hp) : List V → List D → Prop
  | nil : DatL F [] []
  | cons {v : V} {vs : List V} {d : D} {ds : List D} : Dat F v d → DatL F vs ds → DatL F (v :: vs) (d :: ds)
end

mutual
theorem Dat.mono {F F' : Hp} (e : Same F F') : ∀ (d : D) (v : V), Dat F v d → Dat F' v d
  | .none, _, h => by cases h; exact .non
  | .bool b, _, h => by cases h; exact .bl b
  | .int i, _, h => by cases h; exact .int i
  | .str x, _, h => by cases h; exact .str x
  | .list ds, _, h => by
    cases h with
    | lst a b => exact .lst (e _ _ a) (DatL.mono e ds _ b)
  | .tuple ds, _, h => by
    cases h with
    | tup a b => exact .tup (e _ _ a) (DatL.mono e ds _ b)
  | .dict _, _, h => by
    cases h with
    | dic a => exact .dic (e _ _ a)
theorem DatL.mono {F F' : Hp} (e : Same F F') : ∀ (ds : List D) (vs : List V), DatL F vs ds → DatL F' vs ds
  | [], _, h => by cases h; exact .nil
  | d :: ds, _, h => by
    cases h with
    | cons a b => exact .cons (Dat.mono e d _ a) (DatL.mono e ds _ b)
end

section
variable {F : Hp}
theorem DatL.length : ∀ {vs : List V} {ds : List D}, DatL F vs ds → vs.length = ds.length
  | _, _, .nil => rfl
  | _, _, .cons _ t => by rw [List.length_cons, List.length_cons, DatL.length t]
theorem DatL.get : ∀ {vs : List V} {ds : List D} {i : Nat} {d : D}, DatL F vs ds → ds[i]? = some d → ∃ v, vs[i]? = some v ∧ Dat F v d
  | _, _, _, _, .nil, e => by simp at e
  | _, _, 0, _, .cons r _, e => by simp at e; subst e; exact ⟨_, rfl, r⟩
  | _, _, i + 1, d, .cons _ t, e => by
    obtain ⟨u, h1, h2⟩ := DatL.get (i := i) (d := d) t (by simpa using e)
    exact ⟨u, by simpa using h1, h2⟩
theorem DatL.getV : ∀ {vs : List V} {ds : List D} {i : Nat} {v : V}, DatL F vs ds → vs[i]? = some v → ∃ d, ds[i]? = some d ∧ Dat F v d
  | _, _, _, _, .nil, e => by simp at e
  | _, _, 0, _, .cons r _, e => by simp at e; subst e; exact ⟨_, rfl, r⟩
  | _, _, i + 1, d, .cons _ t, e => by
    obtain ⟨u, h1, h2⟩ := DatL.getV (i := i) (v := d) t (by simpa using e)
    exact ⟨u, by simpa using h1, h2⟩
theorem DatL.append : ∀ {vs ws : List V} {ds es : List D}, DatL F vs ds → DatL F ws es → DatL F (vs ++ ws) (ds ++ es)
  | _, _, _, _, .nil, s => s
  | _, _, _, _, .cons r t, s => .cons r (DatL.append t s)
theorem DatL.one {v : V} {d : D} (h : Dat F v d) : DatL F [v] [d] := .cons h .nil
theorem DatL.drop : ∀ {vs : List V} {ds : List D} (n : Nat), DatL F vs ds → DatL F (vs.drop n) (ds.drop n)
  | _, _, 0, r => r
  | _, _, _ + 1, .nil => .nil
  | _, _, n + 1, .cons _ t => DatL.drop n t
theorem DatL.take : ∀ {vs : List V} {ds : List D} (n : Nat), DatL F vs ds → DatL F (vs.take n) (ds.take n)
  | _, _, 0, _ => .nil
  | _, _, _ + 1, .nil => .nil
  | _, _, n + 1, .cons r t => .cons r (DatL.take n t)
theorem DatL.set {v : V} {d : D} (h : Dat F v d) : ∀ {vs : List V} {ds : List D} (i : Nat), DatL F vs ds → DatL F (vs.set i v) (ds.set i d)
  | _, _, _, .nil => .nil
  | _, _, 0, .cons _ t => .cons h t
  | _, _, i + 1, .cons q t => .cons q (DatL.set h i t)
theorem DatL.erase : ∀ {vs : List V} {ds : List D} (i : Nat), DatL F vs ds → DatL F (vs.eraseIdx i) (ds.eraseIdx i)
  | _, _, _, .nil => .nil
  | _, _, 0, .cons _ t => t
  | _, _, i + 1, .cons q t => .cons q (DatL.erase i t)
theorem DatL.dropLast : ∀ {vs : List V} {ds : List D}, DatL F vs ds → DatL F vs.dropLast ds.dropLast
  | _, _, .nil => .nil
  | _, _, .cons _ .nil => .nil
  | _, _, .cons r (.cons r' t) => .cons r (DatL.dropLast (.cons r' t))
theorem DatL.rep {vs : List V} {ds : List D} (h : DatL F vs ds) : ∀ k : Nat, DatL F (List.replicate k vs).flatten (List.replicate k ds).flatten
  | 0 => .nil
  | k + 1 => by
    rw [List.replicate_succ, List.replicate_succ, List.flatten_cons, List.flatten_cons]
    exact h.append (DatL.rep h k)
theorem DatL.rev {vs : List V} {ds : List D} (h : DatL F vs ds) : DatL F vs.reverse ds.reverse := by
  induction ds generalizing vs with
  | nil => cases h; exact .nil
  | cons d ds ih =>
    cases h with
    | cons a b =>
      rw [List.reverse_cons, List.reverse_cons]
      exact (ih b).append (.one a)
theorem DatL.atI {vs : List V} {ds : List D} {i : Int} {d : D} (h : DatL F vs ds) (e : L2.atI ds i = some d) : ∃ v, L2.atI vs i = some v ∧ Dat F v d := by
  unfold L2.atI at e ⊢
  rw [h.length]
  cases q : ixN ds.length i with
  | none => rw [q] at e; cases e
  | some j =>
    rw [q] at e
    exact h.get (i := j) e
theorem DatL.ints : ∀ {vs : List V} {ds : List D} {ns : List Int}, DatL F vs ds → intsOf ds = some ns → vs = ns.map V.int
  | _, _, _, .nil, e => by cases e; rfl
  | _, _, _, .cons (d := d) (ds := ds) r t, e => by
    cases d with
    | int i =>
      cases r
      unfold intsOf at e
      cases q : intsOf ds with
      | none => rw [q] at e; cases e
      | some l =>
        rw [q] at e
        cases e
        rw [DatL.ints t q]
        rfl
    | _ => unfold intsOf at e; cases e
theorem DatL.bls : ∀ {vs : List V} {ds : List D} {ns : List Bool}, DatL F vs ds → blsOf ds = some ns → vs = ns.map V.bl
  | _, _, _, .nil, e => by cases e; rfl
  | _, _, _, .cons (d := d) (ds := ds) r t, e => by
    cases d with
    | bool i =>
      cases r
      unfold blsOf at e
      cases q : blsOf ds with
      | none => rw [q] at e; cases e
      | some l =>
        rw [q] at e
        cases e
        rw [DatL.bls t q]
        rfl
    | _ => unfold blsOf at e; cases e
end

/-- an owned dict: later -/
def DctO (F : Hp) (o : HO) (kvs : List (D × D)) : Prop := o = .dK [] ∧ kvs = []

def RepB (K : PySem.W.Frag) (U : Au) (F G H : Hp) : Option (Option V) → B → Prop
  | _, .un => True
  | some (some v), .dat d => Dat F v d
  | some (some (.ref p)), .lst xs => F p = none ∧ G p = none ∧ ∃ vs, H p = some (.lst vs) ∧ DatL F vs xs
  | some (some (.ref p)), .io xs => F p = none ∧ G p = none ∧ p = U.io ∧ ∃ vs, H p = some (.lst vs) ∧ DatL F vs xs
  | some (some (.ref p)), .dct kvs => F p = none ∧ G p = none ∧ ∃ o, H p = some o ∧ DctO F o kvs
  | some (some (.ref p)), .fn f => p = U.fa f
  | some (some (.ref p)), .exc c => U.px p c
  | some (some (.ref p)), .scr ns => SqL K F p (ns.map V.int)
  | _, _ => False

structure Rep (K : PySem.W.Frag) (U : Au) (F G H : Hp) (σ : L2.St) (s : St) : Prop where
  len : s.length = σ.length
  fh : Same F H
  gh : Same G H
  fg : ∀ a o, F a = some o → G a = none
  b : ∀ (i : Nat) (b : B), s[i]? = some b → RepB K U F G H (σ[i]?) b
  inj : ∀ (i j : Nat) (bi bj : B) (p : Addr), s[i]? = some bi → s[j]? = some bj → owned bi = true → owned bj = true → σ[i]? = some (some (.ref p)) → σ[j]? = some (some (.ref p)) → i = j

/-- no name owns it -/
def Free (σ : L2.St) (s : St) (p : Addr) : Prop := ∀ (i : Nat) (b : B), s[i]? = some b → owned b = true → σ[i]? ≠ some (some (.ref p))

def RepV (K : PySem.W.Frag) (U : Au) (F G H : Hp) (σ : L2.St) (s : St) (u : V) : Vl → Prop
  | .dat d => Dat F u d
  | .newL xs => ∃ p vs, u = .ref p ∧ H p = some (.lst vs) ∧ F p = none ∧ G p = none ∧ DatL F vs xs ∧ Free σ s p
  | .newD kvs => ∃ p o, u = .ref p ∧ H p = some o ∧ F p = none ∧ G p = none ∧ DctO F o kvs ∧ Free σ s p
  | .slot i => σ[i]? = some (some u)
  | .fn f => u = .ref (U.fa f)
  | .exc c => ∃ p, u = .ref p ∧ U.px p c
  | .scr ns => ∃ p, u = .ref p ∧ SqL K F p (ns.map V.int)

section
variable {K : PySem.W.Frag} {U : Au} {F F' G G' H H' : Hp} {σ : L2.St} {s s' : St} {u : V} {v : Vl}

theorem same_sql {a : Addr} {xs : List V} (e : Same F F') (h : SqL K F a xs) : SqL K F' a xs := e.seq h

theorem RepB.mono {q : Option (Option V)} {b : B} (e : Same F F') (hF : ∀ p, q = some (some (.ref p)) → owned b = true → F p = none → F' p = none)
    (hG : ∀ p, q = some (some (.ref p)) → owned b = true → G p = none → G' p = none)
    (hH : ∀ p o, q = some (some (.ref p)) → owned b = true → H p = some o → H' p = some o) (h : RepB K U F G H q b) : RepB K U F' G' H' q b := by
  cases b with
  | un => trivial
  | dat d =>
    cases q with
    | none => exact h
    | some q =>
      cases q with
      | none => exact h
      | some v => exact Dat.mono e d v h
  | _ =>
    cases q with
    | none => exact h
    | some q =>
      cases q with
      | none => exact h
      | some v =>
        cases v with
        | ref p =>
          first
            | exact h
            | exact same_sql e h
            | (obtain ⟨h1, h2, vs, h3, h4⟩ := h
               exact ⟨hF p rfl rfl h1, hG p rfl rfl h2, vs, hH p _ rfl rfl h3, DatL.mono e _ _ h4⟩)
            | (obtain ⟨h1, h2, h0, vs, h3, h4⟩ := h
               exact ⟨hF p rfl rfl h1, hG p rfl rfl h2, h0, vs, hH p _ rfl rfl h3, DatL.mono e _ _ h4⟩)
            | (obtain ⟨h1, h2, vs, h3, h4⟩ := h
               exact ⟨hF p rfl rfl h1, hG p rfl rfl h2, vs, hH p _ rfl rfl h3, h4⟩)
        | _ => exact h

/-- where an owned thing stands -/
theorem Rep.own (R : Rep K U F G H σ s) {i : Nat} {b : B} (e : s[i]? = some b) (ho : owned b = true) : ∃ p o, σ[i]? = some (some (.ref p)) ∧ H p = some o ∧ F p = none ∧ G p = none := by
  have h := R.b i b e
  revert h
  generalize σ[i]? = q
  intro h
  cases b with
  | lst xs =>
    match q, h with
    | some (some (.ref p)), h => obtain ⟨h1, h2, vs, h3, _⟩ := h; exact ⟨p, _, rfl, h3, h1, h2⟩
  | io xs =>
    match q, h with
    | some (some (.ref p)), h => obtain ⟨h1, h2, _, vs, h3, _⟩ := h; exact ⟨p, _, rfl, h3, h1, h2⟩
  | dct xs =>
    match q, h with
    | some (some (.ref p)), h => obtain ⟨h1, h2, vs, h3, _⟩ := h; exact ⟨p, _, rfl, h3, h1, h2⟩
  | _ => cases ho

/-- the heap has grown, some new things are frozen -/
structure Grow (F H F' H' : Hp) : Prop where
  h : Same H H'
  f : Same F F'
  new : ∀ a o, F' a = some o → F a = none → H a = none
  fh : Same F' H'
theorem Grow.refl (h : Same F H) : Grow F H F H := ⟨Same.refl _, Same.refl _, fun _ _ a b => (by rw [a] at b; cases b), h⟩
theorem Grow.keepN (g : Grow F H F' H') {p : Addr} {o : HO} (hp : H p = some o) (hn : F p = none) : F' p = none := by
  cases q : F' p with
  | none => rfl
  | some o' => have := g.new p o' q hn; rw [hp] at this; cases this
theorem Rep.grow (R : Rep K U F G H σ s) (g : Grow F H F' H') : Rep K U F' G H' σ s where
  len := R.len
  fh := g.fh
  gh := R.gh.trans g.h
  fg := fun a o e => by
    cases q : F a with
    | some o' => exact R.fg a o' q
    | none =>
      cases z : G a with
      | none => rfl
      | some o2 => have := g.new a o e q; rw [R.gh a o2 z] at this; cases this
  b := fun i b e => by
    refine RepB.mono g.f (fun p hq ho hn => ?_) (fun _ _ _ h => h) (fun p o _ _ h => g.h p o h) (R.b i b e)
    obtain ⟨p', o, h1, h2, _, _⟩ := R.own e ho
    rw [hq] at h1; cases h1
    exact g.keepN h2 hn
  inj := R.inj
theorem RepV.grow (h : RepV K U F G H σ s u v) (g : Grow F H F' H') : RepV K U F' G H' σ s u v := by
  cases v with
  | dat d => exact Dat.mono g.f d u h
  | newL xs =>
    obtain ⟨p, vs, h0, h1, h2, h3, h4, h5⟩ := h
    exact ⟨p, vs, h0, g.h _ _ h1, g.keepN h1 h2, h3, DatL.mono g.f _ _ h4, h5⟩
  | newD xs =>
    obtain ⟨p, o, h0, h1, h2, h3, h4, h5⟩ := h
    exact ⟨p, o, h0, g.h _ _ h1, g.keepN h1 h2, h3, h4, h5⟩
  | slot i => exact h
  | fn f => exact h
  | exc c => exact h
  | scr ns =>
    obtain ⟨p, h1, h2⟩ := h
    exact ⟨p, h1, same_sql g.f h2⟩

/-- a value that nobody owns is kept aside while something else is reckoned -/
def held (H : Hp) (u : V) (v : Vl) (G : Hp) : Hp := match v, u with
  | .newL _, .ref p => fun a => if a = p then H p else G a
  | .newD _, .ref p => fun a => if a = p then H p else G a
  | _, _ => G
theorem heldAt_rep {p : Addr} {o : HO} (R : Rep K U F G H σ s) (hp : H p = some o) (hF : F p = none) (hG : G p = none) (hf : Free σ s p) : Rep K U F (fun a => if a = p then H p else G a) H σ s where
  len := R.len
  fh := R.fh
  gh := fun a o e => by
    have e : (if a = p then H p else G a) = some o := e
    by_cases h : a = p
    · subst h; rw [if_pos rfl] at e; exact e
    · rw [if_neg h] at e; exact R.gh a o e
  fg := fun a o e => by
    show (if a = p then H p else G a) = none
    by_cases h : a = p
    · subst h; rw [hF] at e; cases e
    · rw [if_neg h]; exact R.fg a o e
  b := fun i b e => by
    refine RepB.mono (Same.refl _) (fun _ _ _ h => h) (fun q hq ho hn => ?_) (fun _ _ _ _ h => h) (R.b i b e)
    show (if q = p then H p else G q) = none
    by_cases h : q = p
    · subst h; exact absurd hq (hf i b e ho)
    · rw [if_neg h]; exact hn
  inj := R.inj
theorem Rep.held (R : Rep K U F G H σ s) (h : RepV K U F G H σ s u v) : Rep K U F (held H u v G) H σ s := by
  cases v with
  | newL xs =>
    obtain ⟨p, vs, rfl, h1, h2, h3, h4, h5⟩ := h
    exact heldAt_rep R h1 h2 h3 h5
  | newD xs =>
    obtain ⟨p, vs, rfl, h1, h2, h3, h4, h5⟩ := h
    exact heldAt_rep R h1 h2 h3 h5
  | _ => exact R
/-- less is kept aside -/
theorem Rep.less (R : Rep K U F G' H σ s) (e : Same G G') : Rep K U F G H σ s where
  len := R.len
  fh := R.fh
  gh := e.trans R.gh
  fg := fun a o h => e.free (R.fg a o h)
  b := fun i b h => RepB.mono (Same.refl _) (fun _ _ _ h => h) (fun _ _ _ h => e.free h) (fun _ _ _ _ h => h) (R.b i b h)
  inj := R.inj
theorem RepV.less (h : RepV K U F G' H σ s u v) (e : Same G G') : RepV K U F G H σ s u v := by
  cases v with
  | newL xs =>
    obtain ⟨p, vs, h0, h1, h2, h3, h4, h5⟩ := h
    exact ⟨p, vs, h0, h1, h2, e.free h3, h4, h5⟩
  | newD xs =>
    obtain ⟨p, vs, h0, h1, h2, h3, h4, h5⟩ := h
    exact ⟨p, vs, h0, h1, h2, e.free h3, h4, h5⟩
  | _ => exact h
theorem held_same (R : Rep K U F G H σ s) (h : RepV K U F G H σ s u v) : Same G (held H u v G) := by
  intro a o e
  cases v with
  | newL xs =>
    obtain ⟨p, vs, rfl, h1, h2, h3, h4, h5⟩ := h
    show (if a = p then H p else G a) = some o
    rw [if_neg (fun z => by subst z; rw [h3] at e; cases e)]
    exact e
  | newD xs =>
    obtain ⟨p, vs, rfl, h1, h2, h3, h4, h5⟩ := h
    show (if a = p then H p else G a) = some o
    rw [if_neg (fun z => by subst z; rw [h3] at e; cases e)]
    exact e
  | _ => exact e
/-- the value behind what was reckoned while it was kept aside -/
theorem RepV.kept (h : RepV K U F G H σ s u v) (e : Same F F') (R' : Rep K U F' (held H u v G) H' σ s') : RepV K U F' G H' σ s' u v := by
  cases v with
  | dat d => exact Dat.mono e d u h
  | newL xs =>
    obtain ⟨p, vs, rfl, h1, h2, h3, h4, h5⟩ := h
    have hp : held H (.ref p) (.newL xs) G p = some (.lst vs) := by
      show (if p = p then H p else G p) = _
      rw [if_pos rfl]; exact h1
    refine ⟨p, vs, rfl, R'.gh p _ hp, ?_, h3, DatL.mono e _ _ h4, fun i b hb ho z => ?_⟩
    · cases q : F' p with
      | none => rfl
      | some o => have := R'.fg p o q; rw [hp] at this; cases this
    · obtain ⟨p', o, z1, z2, z3, z4⟩ := R'.own hb ho
      rw [z] at z1; cases z1
      rw [hp] at z4; cases z4
  | newD xs =>
    obtain ⟨p, o, rfl, h1, h2, h3, h4, h5⟩ := h
    have hp : held H (.ref p) (.newD xs) G p = some o := by
      show (if p = p then H p else G p) = _
      rw [if_pos rfl]; exact h1
    refine ⟨p, o, rfl, R'.gh p _ hp, ?_, h3, h4, fun i b hb ho z => ?_⟩
    · cases q : F' p with
      | none => rfl
      | some o => have := R'.fg p o q; rw [hp] at this; cases this
    · obtain ⟨p', o, z1, z2, z3, z4⟩ := R'.own hb ho
      rw [z] at z1; cases z1
      rw [hp] at z4; cases z4
  | slot i => exact h
  | fn f => exact h
  | exc c => exact h
  | scr ns =>
    obtain ⟨p, h1, h2⟩ := h
    exact ⟨p, h1, same_sql e h2⟩

/-- a datum whose uppermost object may still be owned -/
inductive DatT (F H : Hp) : V → D → Prop
  | dat {u : V} {d : D} : Dat F u d → DatT F H u d
  | lst {p : Addr} {vs : List V} {xs : List D} : H p = some (.lst vs) → DatL F vs xs → DatT F H (.ref p) (.list xs)
  | dct {p : Addr} {o : HO} {kvs : List (D × D)} : H p = some o → DctO F o kvs → DatT F H (.ref p) (.dict kvs)
theorem DatT.list {a : V} {xs : List D} (h : DatT F H a (.list xs)) (e : Same F H) : ∃ p vs, a = .ref p ∧ H p = some (.lst vs) ∧ DatL F vs xs := by
  cases h with
  | dat h =>
    cases h with
    | lst h1 h2 => exact ⟨_, _, rfl, e _ _ h1, h2⟩
  | lst h1 h2 => exact ⟨_, _, rfl, h1, h2⟩
theorem DatT.tuple {a : V} {xs : List D} (h : DatT F H a (.tuple xs)) : ∃ p vs, a = .ref p ∧ F p = some (.tup vs) ∧ DatL F vs xs := by
  cases h with
  | dat h =>
    cases h with
    | tup h1 h2 => exact ⟨_, _, rfl, h1, h2⟩
theorem DatT.int {a : V} {i : Int} (h : DatT F H a (.int i)) : a = .int i := by
  cases h with
  | dat h => cases h; rfl
theorem DatT.bool {a : V} {i : Bool} (h : DatT F H a (.bool i)) : a = .bl i := by
  cases h with
  | dat h => cases h; rfl
theorem DatT.str {a : V} {i : Str} (h : DatT F H a (.str i)) : a = .str i := by
  cases h with
  | dat h => cases h; rfl
theorem DatT.non {a : V} (h : DatT F H a .none) : a = .non := by
  cases h with
  | dat h => cases h; rfl
/-- as it lies in the whole heap -/
theorem DatT.full {a : V} {d : D} (h : DatT F H a d) (e : Same F H) : Dat H a d := by
  cases h with
  | dat h => exact Dat.mono e _ _ h
  | lst h1 h2 => exact .lst h1 (DatL.mono e _ _ h2)
  | dct h1 h2 => obtain ⟨rfl, rfl⟩ := h2; exact .dic h1
theorem peek_dat {d : D} (R : Rep K U F G H σ s) (h : RepV K U F G H σ s u v) (e : peek s v = some d) : DatT F H u d := by
  cases v with
  | dat d' => cases e; exact .dat h
  | newL xs =>
    cases e
    obtain ⟨p, vs, rfl, h1, h2, h3, h4, h5⟩ := h
    exact .lst h1 h4
  | newD kvs =>
    cases e
    obtain ⟨p, o, rfl, h1, h2, h3, h4, h5⟩ := h
    exact .dct h1 h4
  | slot i =>
    have h : σ[i]? = some (some u) := h
    unfold peek at e
    cases q : s[i]? with
    | none => simp [q] at e
    | some b =>
      have hb := R.b i b q
      rw [h] at hb
      cases b with
      | lst xs =>
        simp [q] at e
        subst e
        cases u with
        | ref p => obtain ⟨_, _, vs, h3, h4⟩ := hb; exact .lst h3 h4
        | _ => exact hb.elim
      | io xs =>
        simp [q] at e
        subst e
        cases u with
        | ref p => obtain ⟨_, _, _, vs, h3, h4⟩ := hb; exact .lst h3 h4
        | _ => exact hb.elim
      | dct xs =>
        simp [q] at e
        subst e
        cases u with
        | ref p => obtain ⟨_, _, vs, h3, h4⟩ := hb; exact .dct h3 h4
        | _ => exact hb.elim
      | _ => simp [q] at e
  | fn f => cases e
  | exc c => cases e
  | scr ns => cases e
end
end Fc

/-! sum(t), max(t) of a tuple of numbers -/
namespace Fc
open PySem PySem.Spec PyProof.Rows L2
section
variable {prog : Program} {w : World} {A : Around} {E : Value → Shared → Prop} {s : Shared} {t : Addr} {its : List Value} {ns : List Int} {Q : Value → Shared → Prop}
theorem sumT_raw (hh : A.handled = none) (ht : IsTup s.heap t its.toArray) (hi : IntsAre its ns)
    (h : ∀ h' tk t', (∀ b o, s.heap.get? b = some o → h'.get? b = some o) → Q (.int ns.sum t') { s with heap := h', toks := tk }) : wpAny (model prog w) A (call (.builtin "sum") [.ref t]) Q E s := by
  obtain ⟨xs, e⟩ := hi.allInts.items
  have hn : numsOf (intItems xs).toList = ns := by rw [← e]; exact hi.numsOf
  rw [nums_intItems] at hn
  rw [e] at ht
  refine PySem.W.ktm_sumG hh ht fun h' tk t' hk => ?_
  rw [preSum_eq, List.take_of_length_le (by simp), hn]
  exact h h' tk t' hk
theorem max_intTuple {xs : Array (Int × Tok)} (hh : A.handled = none) (ht : s.heap.IsTuple t (intItems xs)) (hne : 0 < xs.size)
    (h : ∀ v h' tk, (intItems xs)[argBest (fun i j => decide (numAt xs i > numAt xs j)) (xs.size - 1)]? = some v → (∀ b o, s.heap.get? b = some o → h'.get? b = some o) → Q v { s with heap := h', toks := tk }) :
    wpAny (model prog w) A (call (.builtin "max") [.ref t]) Q E s := by
  obtain ⟨o, ho, hc, n, hd⟩ := id ht
  have hnt : t ≠ s.heap.objs.size := Nat.ne_of_lt (Heap.lt_size ho)
  refine call_max_walk (wpAny_pyIter_tuple ht ?_)
  refine ⟨s.heap.objs.size, _, _, _, _, _, _, rfl, Walks.tuple (prog := prog) (w := w) (A := A.in1) hh s.heap.objs.size t hnt (intItems xs), ⟨⟨_, Heap.get?_push_size _ rfl, rfl, rfl⟩, ht.at fun o e => Heap.get?_push_of_some _ e⟩, fun b hb => ?_, by simpa [intItems] using hne, CmpOf.ints_gt (numAt xs) (fun _ _ => intItems_at), fun v h' tk hP hk => ?_⟩
  · rcases List.mem_cons.mp hb with rfl | hb
    · exact Heap.lt_size (Heap.get?_push_size _ rfl)
    · obtain rfl := List.mem_singleton.mp hb
      exact Heap.lt_size (Heap.get?_push_of_some _ ho)
  · exact h v h' tk (by simpa [intItems] using hP) fun b o e => hk b o (fun hb => absurd (Heap.lt_size e) ((List.mem_singleton.mp hb) ▸ Nat.lt_irrefl _)) (Heap.get?_push_of_some _ e)
theorem maxT_raw (hh : A.handled = none) (ht : IsTup s.heap t its.toArray) (hi : IntsAre its ns) (hne : 0 < ns.length)
    (h : ∀ h' tk M t', (∀ b o, s.heap.get? b = some o → h'.get? b = some o) → M ∈ ns → (∀ a, a ∈ ns → a ≤ M) → Q (.int M t') { s with heap := h', toks := tk }) : wpAny (model prog w) A (call (.builtin "max") [.ref t]) Q E s := by
  obtain ⟨xs, e⟩ := hi.allInts.items
  have hn : numsOf (intItems xs).toList = ns := by rw [← e]; exact hi.numsOf
  rw [nums_intItems] at hn
  subst hn
  rw [e] at ht
  have hsz : 0 < xs.size := by simpa using hne
  refine max_intTuple hh ht hsz fun v h' tk hv hk => ?_
  obtain ⟨t, rfl⟩ := intItems_at hv
  obtain ⟨h1, h2⟩ := argBest_gt (numAt xs) (xs.size - 1)
  refine h h' tk _ t hk ?_ fun a ha => ?_
  · rw [numAt_eq]
    exact PySem.getD_mem (by rw [List.length_map, Array.length_toList]; omega)
  · obtain ⟨j, hj, rfl⟩ := mem_getD ha
    rw [List.length_map, Array.length_toList] at hj
    rw [← numAt_eq]
    exact h2 j (by omega)
end
section
variable {X : Cx}
theorem cr_sumT (hc : X.calm = true) : CallR X (.builtin "sum") (fun vs H Q => ∃ (a : Addr) (ns : List Int), vs = [V.ref a] ∧ SqT X.K H a (ns.map V.int) ∧ Q (.int ns.sum) H) := by
  intro pins s σ H vs us Q I r ⟨a, ns, e, hs, q⟩
  subst e
  obtain ⟨its, rv, hl, _⟩ := I.tuple hs
  rw [Vals.ref1 r]
  exact sumT_raw (I.ok.hd hc) hl rv.ints fun h' tk t' hk => ⟨.int _, H, I.kept hk, ⟨_, rfl⟩, q⟩
theorem cr_maxT (hc : X.calm = true) : CallR X (.builtin "max") (fun vs H Q => ∃ (a : Addr) (ns : List Int), vs = [V.ref a] ∧ SqT X.K H a (ns.map V.int) ∧ 0 < ns.length ∧ ∀ m, m ∈ ns → (∀ y, y ∈ ns → y ≤ m) → Q (.int m) H) := by
  intro pins s σ H vs us Q I r ⟨a, ns, e, hs, hne, q⟩
  subst e
  obtain ⟨its, rv, hl, _⟩ := I.tuple hs
  rw [Vals.ref1 r]
  exact maxT_raw (I.ok.hd hc) hl rv.ints hne fun h' tk m t' hk h1 h2 => ⟨.int _, H, I.kept hk, ⟨_, rfl⟩, q m h1 h2⟩
end
end Fc

/-! operators, builtins: the machine does what the pure functions say -/
namespace Fc
open PySem PySem.Spec PyProof.Rows L2

/-- a new value -/
def NewV (F H F' H' : Hp) (u : V) : Vl → Prop
  | .dat d => Dat F' u d
  | .newL xs => ∃ p vs, u = .ref p ∧ H p = none ∧ F' p = none ∧ H' p = some (.lst vs) ∧ DatL F' vs xs
  | .newD kvs => ∃ p o, u = .ref p ∧ H p = none ∧ F' p = none ∧ H' p = some o ∧ DctO F' o kvs
  | _ => False
def PostP (F H : Hp) (z : Vl) (Q : VK) : Prop := ∀ u H' F', Grow F H F' H' → NewV F H F' H' u z → Q u H'

section
variable {F H F' : Hp} {Q : VK} {d : D} {u : V} {p : Addr} {vs : List V} {xs : List D}
theorem PostP.at (h : PostP F H (.dat d) Q) (e : Same F H) (hd : Dat F u d) : Q u H := h u H F (Grow.refl e) hd
theorem same_upd {o : HO} (hp : H p = none) : Same H (upd H p o) := fun a o' e => by rw [upd_ne (ne_of_none e hp)]; exact e
theorem Grow.laid {o : HO} (e : Same F H) (hp : H p = none) : Grow F H F (upd H p o) :=
  ⟨same_upd hp, Same.refl _, fun _ _ a b => (by rw [a] at b; cases b), e.trans (same_upd hp)⟩
theorem Grow.laidF {o : HO} (e : Same F H) (hp : H p = none) : Grow F H (upd F p o) (upd H p o) where
  h := same_upd hp
  f := same_upd (e.free hp)
  new := fun a o' h1 h2 => by
    by_cases q : a = p
    · subst q; exact hp
    · rw [upd_ne q, h2] at h1; cases h1
  fh := fun a o' h => by
    by_cases q : a = p
    · subst q; rw [upd_same] at h ⊢; exact h
    · rw [upd_ne q] at h ⊢; exact e a o' h
theorem PostP.newL (h : PostP F H (.newL xs) Q) (e : Same F H) (hp : H p = none) (hd : DatL F vs xs) : Q (.ref p) (upd H p (.lst vs)) :=
  h _ _ _ (Grow.laid e hp) ⟨p, vs, rfl, hp, e.free hp, upd_same, hd⟩
theorem PostP.newD (h : PostP F H (.newD []) Q) (e : Same F H) (hp : H p = none) : Q (.ref p) (upd H p (.dK [])) :=
  h _ _ _ (Grow.laid e hp) ⟨p, _, rfl, hp, e.free hp, upd_same, rfl, rfl⟩
theorem PostP.tup (h : PostP F H (.dat (.tuple xs)) Q) (e : Same F H) (hp : H p = none) (hd : DatL F vs xs) : Q (.ref p) (upd H p (.tup vs)) :=
  h _ _ _ (Grow.laidF (o := .tup vs) e hp) (.tup upd_same (DatL.mono (same_upd (e.free hp)) _ _ hd))
end

def rOp (p : Op2) : R2 := fun x y H Q => ∃ F d e z, Same F H ∧ DatT F H x d ∧ DatT F H y e ∧ evOp2 p d e = some z ∧ PostP F H z Q

/-! ### reads -/
mutual
theorem Dat.reads {X : Cx} {pins : List (Addr × Obj)} {σ : L2.St} {H : Hp} {s : Shared} (I : Inv X pins σ H s) : ∀ (n : Nat) (d : D) (v : V) (u : Value), fit n d = true → Dat H v d → RelV v u → ∃ as, Reads s.heap u d as
  | _, .none, _, _, _, h, r => by cases h; cases r; exact ⟨_, .none⟩
  | _, .bool b, _, _, _, h, r => by cases h; cases r; exact ⟨_, .bool b⟩
  | _, .int i, _, _, _, h, r => by cases h; obtain ⟨t, rfl⟩ := r; exact ⟨_, .int i t⟩
  | _, .str x, _, _, _, h, r => by cases h; obtain ⟨t, rfl⟩ := r; exact ⟨_, .str x t⟩
  | n + 1, .list ds, _, _, f, h, r => by
    cases h with
    | lst hs ha =>
      cases r
      obtain ⟨its, rv, ⟨o, k, ho, hc, _, hd⟩, _⟩ := I.list (SqL.of (K := X.K) hs)
      obtain ⟨as, hr⟩ := Dat.readsAll I n ds _ its f ha rv
      exact ⟨_, .list ho hc hd hr⟩
  | n + 1, .tuple ds, _, _, f, h, r => by
    cases h with
    | tup hs ha =>
      cases r
      obtain ⟨its, rv, ⟨o, ho, hc, k, hd⟩, _⟩ := I.tuple (SqT.of (K := X.K) hs)
      obtain ⟨as, hr⟩ := Dat.readsAll I n ds _ its f ha rv
      exact ⟨_, .tuple ho hc hd hr⟩
  | 0, .list _, _, _, f, _, _ => by cases f
  | 0, .tuple _, _, _, f, _, _ => by cases f
  | _, .dict _, _, _, f, _, _ => by unfold fit at f; cases f
theorem Dat.readsAll {X : Cx} {pins : List (Addr × Obj)} {σ : L2.St} {H : Hp} {s : Shared} (I : Inv X pins σ H s) : ∀ (n : Nat) (ds : List D) (vs : List V) (us : List Value), ds.all (fit n) = true → DatL H vs ds → Vals vs us → ∃ as, ReadsAll s.heap us ds as
  | _, [], _, _, _, h, r => by cases h; cases r; exact ⟨_, .nil⟩
  | n, d :: ds, _, _, f, h, r => by
    cases h with
    | cons h1 h2 =>
      cases r with
      | cons r1 r2 =>
        rw [List.all_cons, Bool.and_eq_true] at f
        obtain ⟨as, q1⟩ := Dat.reads I n d _ _ f.1 h1 r1
        obtain ⟨bs, q2⟩ := Dat.readsAll I n ds _ _ f.2 h2 r2
        exact ⟨_, .cons q1 q2⟩
end

mutual
theorem fit_plain : ∀ (n : Nat) (d : D), fit n d = true → d.plain = true ∧ d.depth ≤ n
  | _, .none, _ => ⟨rfl, Nat.zero_le _⟩
  | _, .bool _, _ => ⟨rfl, Nat.zero_le _⟩
  | _, .int _, _ => ⟨rfl, Nat.zero_le _⟩
  | _, .str _, _ => ⟨rfl, Nat.zero_le _⟩
  | n + 1, .list xs, h => by
    obtain ⟨h1, h2⟩ := fit_plainAll n xs h
    exact ⟨h1, Nat.succ_le_succ h2⟩
  | n + 1, .tuple xs, h => by
    obtain ⟨h1, h2⟩ := fit_plainAll n xs h
    exact ⟨h1, Nat.succ_le_succ h2⟩
  | 0, .list _, h => by cases h
  | 0, .tuple _, h => by cases h
  | _, .dict _, h => by unfold fit at h; cases h
theorem fit_plainAll : ∀ (n : Nat) (ds : List D), ds.all (fit n) = true → PyData.plainAll ds = true ∧ PyData.depthAll ds ≤ n
  | _, [], _ => ⟨rfl, Nat.zero_le _⟩
  | n, d :: ds, h => by
    rw [List.all_cons, Bool.and_eq_true] at h
    obtain ⟨h1, h2⟩ := fit_plain n d h.1
    obtain ⟨h3, h4⟩ := fit_plainAll n ds h.2
    refine ⟨?_, Nat.max_le.mpr ⟨h2, h4⟩⟩
    show (d.plain && PyData.plainAll ds) = true
    rw [h1, h3]; rfl
end

theorem lenOk_of {n : Nat} (h : lenOk n = true) : n ≤ sizeLine := by
  have := of_decide_eq_true h
  rw [sizeLine_eq]; omega

section
variable {X : Cx}
theorem opI_ok {f : Value → Value → Sem Value} {C : Int → Int → Prop} {g : Int → Int → Int} {p : Op2} {c : Int → Int → Bool} (hr : OpR X f (rI C fun i j => .int (g i j))) (hp : evOp2 p = evInt c g) (hc : ∀ i j, c i j = true → C i j) : OpR X f (rOp p) := by
  intro pins s σ H x y v u Q I rx ry h
  obtain ⟨F, d, e, z, hF, hd, he, hz, hq⟩ := h
  rw [hp] at hz
  unfold evInt at hz
  split at hz
  · rename_i i j
    split at hz
    · rename_i hcc
      cases hz
      rw [hd.int] at rx
      rw [he.int] at ry
      exact hr pins s σ H _ _ v u Q I rx ry ⟨i, j, rfl, rfl, hc i j hcc, hq.at hF (.int _)⟩
    · cases hz
  · cases hz
theorem opI0_ok {f : Value → Value → Sem Value} {g : Int → Int → Int} {p : Op2} {c : Int → Int → Bool} (hr : OpR X f (rI0 fun i j => .int (g i j))) (hp : evOp2 p = evInt c g) : OpR X f (rOp p) :=
  opI_ok (C := fun _ _ => True) (fun pins s σ H x y v u Q I rx ry ⟨i, j, e1, e2, _, q⟩ => hr pins s σ H x y v u Q I rx ry ⟨i, j, e1, e2, q⟩) hp fun _ _ _ => trivial

theorem sp_sub : OpR X (binaryOp .Sub) (rOp .sub) := opI0_ok op_sub rfl
theorem sp_fdiv : OpR X (binaryOp .FloorDiv) (rOp .fdiv) := opI_ok op_fdivW rfl fun i j h => by
  rw [divOk, Bool.and_eq_true] at h
  exact ⟨of_decide_eq_true h.1, of_decide_eq_true h.2⟩
theorem sp_mod : OpR X (binaryOp .Mod) (rOp .mod) := opI_ok op_mod rfl fun i j h => of_decide_eq_true h
theorem powOk_of {i j : Int} (h : powOk i j = true) : CPow i j := by
  rw [powOk, Bool.and_eq_true, Bool.and_eq_true] at h
  exact ⟨of_decide_eq_true h.1.1, of_decide_eq_true h.1.2, of_decide_eq_true h.2⟩
theorem sp_pow : OpR X (binaryOp .Pow) (rOp .pow) := opI_ok op_pow rfl fun i j h => powOk_of h
theorem sp_shl : OpR X (binaryOp .LShift) (rOp .shl) := opI_ok op_shl rfl fun i j h => powOk_of h
theorem sp_shr : OpR X (binaryOp .RShift) (rOp .shr) := opI_ok op_shr rfl fun i j h => of_decide_eq_true h
theorem sp_band : OpR X (binaryOp .BitAnd) (rOp .band) := opI0_ok op_and rfl

theorem sp_add : OpR X (binaryOp .Add) (rOp .add) := by
  intro pins s σ H x y v u Q I rx ry h
  obtain ⟨F, d, e, z, hF, hd, he, hz, hq⟩ := h
  replace hz : evAdd d e = some z := hz
  unfold evAdd at hz
  split at hz
  · cases hz
    rw [hd.int] at rx
    rw [he.int] at ry
    exact op_add pins s σ H _ _ v u Q I rx ry ⟨_, _, rfl, rfl, hq.at hF (.int _)⟩
  · split at hz
    · rename_i hl
      cases hz
      obtain ⟨a, vs, rfl, h1, h2⟩ := hd.list hF
      obtain ⟨b, ws, rfl, h3, h4⟩ := he.list hF
      refine op_cat pins s σ H _ _ v u Q I rx ry ⟨a, b, vs, ws, rfl, rfl, h1, h3, ?_, fun p hp => hq.newL hF hp (h2.append h4)⟩
      rw [h2.length, h4.length]; exact lenOk_of hl
    · cases hz
  · split at hz
    · rename_i hl
      cases hz
      obtain ⟨a, vs, rfl, h1, h2⟩ := hd.tuple
      obtain ⟨b, ws, rfl, h3, h4⟩ := he.tuple
      refine op_catA pins s σ H _ _ v u Q I rx ry ⟨a, b, vs, ws, rfl, rfl, .of (hF _ _ h1), .of (hF _ _ h3), ?_, fun e => ?_, fun _ e => ?_, fun _ _ p hp => hq.tup hF hp (h2.append h4)⟩
      · rw [h2.length, h4.length]; exact lenOk_of hl
      · subst e
        cases h2
        exact hq.at hF (.tup h3 h4)
      · subst e
        cases h4
        exact hq.at hF (.tup h1 (by rw [List.append_nil]; exact h2))
    · cases hz
  · split at hz
    · rename_i hl
      cases hz
      rw [hd.str] at rx
      rw [he.str] at ry
      exact op_add_str pins s σ H _ _ v u Q I rx ry ⟨_, _, rfl, rfl, lenOk_of hl, hq.at hF (.str _)⟩
    · cases hz
  · cases hz

theorem mulOk_of {i j : Int} (h : mulOk i j = true) : CMulW i j := by
  unfold mulOk at h
  unfold CMulW
  exact of_decide_eq_true h
theorem sp_mul : OpR X (binaryOp .Mult) (rOp .mul) := by
  intro pins s σ H x y v u Q I rx ry h
  obtain ⟨F, d, e, z, hF, hd, he, hz, hq⟩ := h
  replace hz : evMul d e = some z := hz
  unfold evMul at hz
  split at hz
  · split at hz
    · rename_i hm
      cases hz
      rw [hd.int] at rx
      rw [he.int] at ry
      exact op_mulW pins s σ H _ _ v u Q I rx ry ⟨_, _, rfl, rfl, mulOk_of hm, hq.at hF (.int _)⟩
    · cases hz
  · split at hz
    · rename_i hm
      cases hz
      rw [Bool.and_eq_true, Bool.and_eq_true] at hm
      obtain ⟨a, vs, rfl, h1, h2⟩ := hd.list hF
      rw [he.int] at ry
      have k1 := of_decide_eq_true hm.1.1
      have k2 := of_decide_eq_true hm.1.2
      refine op_rep pins s σ H _ _ v u Q I rx ry ⟨a, _, vs, rfl, rfl, h1, by omega, by omega, ?_, fun p hp => hq.newL hF hp (h2.rep _)⟩
      rw [h2.length]; exact lenOk_of hm.2
    · cases hz
  · split at hz
    · rename_i hm
      cases hz
      rw [Bool.and_eq_true, Bool.and_eq_true, Bool.and_eq_true] at hm
      obtain ⟨a, vs, rfl, h1, h2⟩ := hd.tuple
      rw [he.int] at ry
      refine op_repT pins s σ H _ _ v u Q I rx ry ⟨a, _, vs, rfl, rfl, .of (hF _ _ h1), ?_, of_decide_eq_true hm.1.1.2, of_decide_eq_true hm.1.1.1, ?_, fun p hp => hq.tup hF hp (h2.rep _)⟩
      · intro e
        subst e
        cases h2
        simp at hm
      · rw [h2.length]; exact of_decide_eq_true hm.1.2
    · cases hz
  · cases hz

theorem fin_bool {pins : List (Addr × Obj)} {s : Shared} {σ : L2.St} {F H : Hp} {Q : VK} {b : Bool} (I : Inv X pins σ H s) (hF : Same F H) (hq : PostP F H (.dat (.bool b)) Q) : EP X pins σ Q (.bool b) s :=
  ⟨.bl b, H, I, rfl, hq.at hF (.bl b)⟩

theorem sp_eq (hu : X.A.units + 64 < cLine) : OpR X (compareOp .Eq) (rOp .eq) := by
  intro pins s σ H x y v u Q I rx ry h
  obtain ⟨F, d, e, z, hF, hd, he, hz, hq⟩ := h
  replace hz : evEq false d e = some z := hz
  unfold evEq at hz
  split at hz
  · rename_i hf
    rw [Bool.and_eq_true] at hf
    cases hz
    obtain ⟨as, r1⟩ := Dat.reads I 8 d _ _ hf.1 (hd.full hF) rx
    obtain ⟨bs, r2⟩ := Dat.reads I 8 e _ _ hf.2 (he.full hF) ry
    obtain ⟨p1, p2⟩ := fit_plain 8 d hf.1
    obtain ⟨p3, p4⟩ := fit_plain 8 e hf.2
    rw [Bool.false_xor] at hq
    exact SeqAt.eq_plain r1 r2 p1 p3 (by omega) (fin_bool I hF hq)
  · cases hz
theorem sp_ne (hu : X.A.units + 64 < cLine) : OpR X (compareOp .NotEq) (rOp .ne) := by
  intro pins s σ H x y v u Q I rx ry h
  obtain ⟨F, d, e, z, hF, hd, he, hz, hq⟩ := h
  replace hz : evEq true d e = some z := hz
  unfold evEq at hz
  split at hz
  · rename_i hf
    rw [Bool.and_eq_true] at hf
    cases hz
    obtain ⟨as, r1⟩ := Dat.reads I 8 d _ _ hf.1 (hd.full hF) rx
    obtain ⟨bs, r2⟩ := Dat.reads I 8 e _ _ hf.2 (he.full hF) ry
    obtain ⟨p1, p2⟩ := fit_plain 8 d hf.1
    obtain ⟨p3, p4⟩ := fit_plain 8 e hf.2
    rw [Bool.true_xor] at hq
    exact SeqAt.ne_plain r1 r2 p1 p3 (by omega) (fin_bool I hF hq)
  · cases hz
theorem ltOk_of {d e : D} (h : ltOk d e = true) : PySem.W.alike d e = true ∧ fit 8 d = true ∧ fit 8 e = true ∧ d ≠ .none := by
  unfold ltOk at h
  simp only [Bool.and_eq_true] at h
  obtain ⟨⟨⟨h1, h2⟩, h3⟩, h4⟩ := h
  refine ⟨h1, h2, h3, fun z => ?_⟩
  subst z
  cases h4
theorem cmp_ok {f : Value → Value → Sem Value} {p : Op2} {ci : Int → Int → Bool} {cd : D → D → Bool} (hi : OpR X f (rI0 fun i j => .bl (ci i j)))
    (hd' : ∀ (pins : List (Addr × Obj)) (s : Shared) (σ : L2.St) (H : Hp) (d e : D) (v u : Value) (as bs : List Addr) (Q : VK), Inv X pins σ H s → Reads s.heap v d as → Reads s.heap u e bs → ltOk d e = true → EP X pins σ Q (.bool (cd d e)) s → wpAny (model X.prog X.w) X.A (f v u) (EP X pins σ Q) X.xe s)
    (hp : ∀ d e, evOp2 p d e = match d, e with
      | .int i, .int j => ofB (ci i j)
      | a, b => if ltOk a b then ofB (cd a b) else none) : OpR X f (rOp p) := by
  intro pins s σ H x y v u Q I rx ry h
  obtain ⟨F, d, e, z, hF, hd, he, hz, hq⟩ := h
  rw [hp] at hz
  split at hz
  · cases hz
    rw [hd.int] at rx
    rw [he.int] at ry
    exact hi pins s σ H _ _ v u Q I rx ry ⟨_, _, rfl, rfl, hq.at hF (.bl _)⟩
  · split at hz
    · rename_i hl
      cases hz
      obtain ⟨_, f1, f2, _⟩ := ltOk_of hl
      obtain ⟨as, r1⟩ := Dat.reads I 8 d _ _ f1 (hd.full hF) rx
      obtain ⟨bs, r2⟩ := Dat.reads I 8 e _ _ f2 (he.full hF) ry
      exact hd' pins s σ H d e v u as bs Q I r1 r2 hl (fin_bool I hF hq)
    · cases hz
theorem sp_lt (hu : X.A.units + 64 < cLine) : OpR X (compareOp .Lt) (rOp .lt) :=
  cmp_ok op_lt (fun pins s σ H d e v u as bs Q I r1 r2 hl q => by
    obtain ⟨h1, f1, f2, hn⟩ := ltOk_of hl
    have := (fit_plain 8 d f1).2
    exact PySem.W.lt_data r1 r2 h1 hn (by omega) q) fun d e => rfl
theorem sp_gt (hu : X.A.units + 64 < cLine) : OpR X (compareOp .Gt) (rOp .gt) :=
  cmp_ok op_gt (fun pins s σ H d e v u as bs Q I r1 r2 hl q => by
    obtain ⟨h1, f1, f2, hn⟩ := ltOk_of hl
    have := (fit_plain 8 d f1).2
    exact PySem.W.gt_data r1 r2 h1 hn (by omega) q) fun d e => rfl
theorem sp_le (hu : X.A.units + 64 < cLine) : OpR X (compareOp .LtE) (rOp .le) :=
  cmp_ok op_le (fun pins s σ H d e v u as bs Q I r1 r2 hl q => by
    obtain ⟨h1, f1, f2, hn⟩ := ltOk_of hl
    have := (fit_plain 8 d f1).2
    exact PySem.W.le_data r1 r2 h1 hn (by omega) q) fun d e => rfl
theorem sp_ge (hu : X.A.units + 64 < cLine) : OpR X (compareOp .GtE) (rOp .ge) :=
  cmp_ok op_ge (fun pins s σ H d e v u as bs Q I r1 r2 hl q => by
    obtain ⟨h1, f1, f2, hn⟩ := ltOk_of hl
    have := (fit_plain 8 d f1).2
    exact PySem.W.ge_data r1 r2 h1 hn (by omega) q) fun d e => rfl

theorem sp_in (hu : X.A.units + 64 < cLine) : OpR X (compareOp .In) (rOp .isin) := by
  intro pins s σ H x y v u Q I rx ry h
  obtain ⟨F, d, e, z, hF, hd, he, hz, hq⟩ := h
  replace hz : evIn false d e = some z := hz
  unfold evIn at hz
  split at hz
  · split at hz
    · rename_i hf
      rw [Bool.and_eq_true] at hf
      cases hz
      rw [Bool.false_xor] at hq
      obtain ⟨as, r1⟩ := Dat.reads I 8 d _ _ hf.1 (hd.full hF) rx
      obtain ⟨bs, r2⟩ := Dat.reads I 9 _ _ _ (show fit 9 (.list _) = true from hf.2) (he.full hF) ry
      obtain ⟨p1, p2⟩ := fit_plain 8 d hf.1
      exact SeqAt.in_list_data r2 r1 (fit_plainAll 8 _ hf.2).1 p1 (by omega) (fin_bool I hF hq)
    · cases hz
  · split at hz
    · rename_i hf
      rw [Bool.and_eq_true] at hf
      cases hz
      rw [Bool.false_xor] at hq
      obtain ⟨as, r1⟩ := Dat.reads I 8 d _ _ hf.1 (hd.full hF) rx
      obtain ⟨bs, r2⟩ := Dat.reads I 9 _ _ _ (show fit 9 (.tuple _) = true from hf.2) (he.full hF) ry
      obtain ⟨p1, p2⟩ := fit_plain 8 d hf.1
      exact SeqAt.in_tuple_data r2 r1 (fit_plainAll 8 _ hf.2).1 p1 (by omega) (fin_bool I hF hq)
    · cases hz
  · cases hz
theorem sp_notin (hu : X.A.units + 64 < cLine) : OpR X (compareOp .NotIn) (rOp .notin) := by
  intro pins s σ H x y v u Q I rx ry h
  obtain ⟨F, d, e, z, hF, hd, he, hz, hq⟩ := h
  replace hz : evIn true d e = some z := hz
  unfold evIn at hz
  split at hz
  · split at hz
    · rename_i hf
      rw [Bool.and_eq_true] at hf
      cases hz
      rw [Bool.true_xor] at hq
      obtain ⟨as, r1⟩ := Dat.reads I 8 d _ _ hf.1 (hd.full hF) rx
      obtain ⟨bs, r2⟩ := Dat.reads I 9 _ _ _ (show fit 9 (.list _) = true from hf.2) (he.full hF) ry
      obtain ⟨p1, p2⟩ := fit_plain 8 d hf.1
      exact SeqAt.notIn_list_data r2 r1 (fit_plainAll 8 _ hf.2).1 p1 (by omega) (fin_bool I hF hq)
    · cases hz
  · split at hz
    · rename_i hf
      rw [Bool.and_eq_true] at hf
      cases hz
      rw [Bool.true_xor] at hq
      obtain ⟨as, r1⟩ := Dat.reads I 8 d _ _ hf.1 (hd.full hF) rx
      obtain ⟨bs, r2⟩ := Dat.reads I 9 _ _ _ (show fit 9 (.tuple _) = true from hf.2) (he.full hF) ry
      obtain ⟨p1, p2⟩ := fit_plain 8 d hf.1
      exact SeqAt.notIn_tuple_data r2 r1 (fit_plainAll 8 _ hf.2).1 p1 (by omega) (fin_bool I hF hq)
    · cases hz
  · cases hz

theorem sp_ix : IxR X (rOp .ix) := by
  intro value slice pins s σ H x y v u Q I rx ry h hsub
  obtain ⟨F, d, e, z, hF, hd, he, hz, hq⟩ := h
  replace hz : evIx d e = some z := hz
  unfold evIx at hz
  split at hz
  · rename_i xs i
    cases hi : L2.atI xs i with
    | none => rw [hi] at hz; cases hz
    | some w =>
      rw [hi] at hz
      cases hz
      obtain ⟨a, vs, rfl, h1, h2⟩ := hd.list hF
      obtain ⟨b, hb, hw⟩ := h2.atI hi
      rw [he.int] at ry
      exact ix_list value slice pins s σ H _ _ v u Q I rx ry ⟨a, vs, i, b, rfl, rfl, SqL.of h1, hb, hq.at hF hw⟩ hsub
  · rename_i xs i
    cases hi : L2.atI xs i with
    | none => rw [hi] at hz; cases hz
    | some w =>
      rw [hi] at hz
      cases hz
      obtain ⟨a, vs, rfl, h1, h2⟩ := hd.tuple
      obtain ⟨b, hb, hw⟩ := h2.atI hi
      rw [he.int] at ry
      exact ix_tup value slice pins s σ H _ _ v u Q I rx ry ⟨a, vs, i, b, rfl, rfl, SqT.of (hF _ _ h1), hb, hq.at hF hw⟩ hsub
  · cases hz

/-! ### builtins of one argument -/
def rFn (p : Fn1) : List V → Hp → VK → Prop := fun xs H Q => ∃ F x d z, xs = [x] ∧ Same F H ∧ DatT F H x d ∧ evFn1 p d = some z ∧ PostP F H z Q

theorem sf_len : CallR X (.builtin "len") (rFn .len) := by
  intro pins s σ H xs us Q I rx h
  obtain ⟨F, x, d, z, rfl, hF, hd, hz, hq⟩ := h
  replace hz : evLen d = some z := hz
  unfold evLen at hz
  split at hz
  · cases hz
    obtain ⟨a, vs, rfl, h1, h2⟩ := hd.list hF
    refine call_len pins s σ H _ us Q I rx ⟨_, vs.length, rfl, .inl ⟨vs, SqL.of h1, rfl⟩, ?_⟩
    rw [h2.length]; exact hq.at hF (.int _)
  · cases hz
    obtain ⟨a, vs, rfl, h1, h2⟩ := hd.tuple
    refine call_len pins s σ H _ us Q I rx ⟨_, vs.length, rfl, .inr ⟨vs, SqT.of (hF _ _ h1), rfl⟩, ?_⟩
    rw [h2.length]; exact hq.at hF (.int _)
  · split at hz
    · rename_i hl
      cases hz
      rw [hd.str] at rx
      exact call_len pins s σ H _ us Q I rx ⟨_, _, rfl, ⟨lenOk_of hl, rfl⟩, hq.at hF (.int _)⟩
    · cases hz
  · cases hz
theorem sf_tuple : CallR X (.type "tuple") (rFn .tuple) := by
  intro pins s σ H xs us Q I rx h
  obtain ⟨F, x, d, z, rfl, hF, hd, hz, hq⟩ := h
  replace hz : evTup d = some z := hz
  unfold evTup at hz
  split at hz
  · cases hz
    obtain ⟨a, vs, rfl, h1, h2⟩ := hd.list hF
    exact call_tuple_of pins s σ H _ us Q I rx ⟨a, vs, rfl, .inl ⟨SqL.of h1, fun p hp => hq.tup hF hp h2⟩⟩
  · cases hz
    obtain ⟨a, vs, rfl, h1, h2⟩ := hd.tuple
    exact call_tuple_of pins s σ H _ us Q I rx ⟨a, vs, rfl, .inr ⟨SqT.of (hF _ _ h1), hq.at hF (.tup h1 h2)⟩⟩
  · cases hz
theorem sf_list : CallR X (.type "list") (rFn .list) := by
  intro pins s σ H xs us Q I rx h
  obtain ⟨F, x, d, z, rfl, hF, hd, hz, hq⟩ := h
  replace hz : evLst d = some z := hz
  unfold evLst at hz
  split at hz
  · cases hz
    obtain ⟨a, vs, rfl, h1, h2⟩ := hd.list hF
    exact call_list_of pins s σ H _ us Q I rx ⟨a, vs, rfl, .inl (SqL.of h1), fun p hp => hq.newL hF hp h2⟩
  · cases hz
    obtain ⟨a, vs, rfl, h1, h2⟩ := hd.tuple
    exact call_list_of pins s σ H _ us Q I rx ⟨a, vs, rfl, .inr (SqT.of (hF _ _ h1)), fun p hp => hq.newL hF hp h2⟩
  · cases hz
theorem evInts_of {f : List Int → Option Int} {d : D} {z : Vl} (h : evInts f d = some z) : ∃ xs ns m, d = .list xs ∧ intsOf xs = some ns ∧ f ns = some m ∧ z = .dat (.int m) := by
  unfold evInts at h
  split at h
  · split at h
    · rename_i ns hn
      split at h
      · rename_i m hm
        cases h
        exact ⟨_, ns, m, rfl, hn, hm, rfl⟩
      · cases h
    · cases h
  · cases h
theorem evIntsT_of {f : List Int → Option Int} {d : D} {z : Vl} (h : evIntsT f d = some z) : ∃ xs ns m, (d = .list xs ∨ d = .tuple xs) ∧ intsOf xs = some ns ∧ f ns = some m ∧ z = .dat (.int m) := by
  unfold evIntsT at h
  split at h
  · obtain ⟨xs, ns, m, e, r⟩ := evInts_of h
    cases e
    exact ⟨_, ns, m, .inr rfl, r⟩
  · obtain ⟨xs, ns, m, rfl, r⟩ := evInts_of h
    exact ⟨_, ns, m, .inl rfl, r⟩
theorem evBls_of {f : List Bool → Bool} {d : D} {z : Vl} (h : evBls f d = some z) : ∃ xs ns, d = .list xs ∧ blsOf xs = some ns ∧ z = .dat (.bool (f ns)) := by
  unfold evBls at h
  split at h
  · split at h
    · rename_i ns hn
      cases h
      exact ⟨_, ns, rfl, hn, rfl⟩
    · cases h
  · cases h
theorem sf_sum (hc : X.calm = true) : CallR X (.builtin "sum") (rFn .sum) := by
  intro pins s σ H xs us Q I rx h
  obtain ⟨F, x, d, z, rfl, hF, hd, hz, hq⟩ := h
  obtain ⟨xs, ns, m, e, hn, hm, rfl⟩ := evIntsT_of (f := fun ns => some ns.sum) hz
  cases hm
  rcases e with rfl | rfl
  · obtain ⟨a, vs, rfl, h1, h2⟩ := hd.list hF
    have e := h2.ints hn
    subst e
    exact cr_sum hc pins s σ H _ us Q I rx ⟨a, ns, rfl, SqL.of h1, hq.at hF (.int _)⟩
  · obtain ⟨a, vs, rfl, h1, h2⟩ := hd.tuple
    have e := h2.ints hn
    subst e
    exact cr_sumT hc pins s σ H _ us Q I rx ⟨a, ns, rfl, SqT.of (hF _ _ h1), hq.at hF (.int _)⟩
theorem foldl_max_mem : ∀ (xs : List Int) (x : Int), (xs.foldl max x = x ∨ xs.foldl max x ∈ xs) ∧ x ≤ xs.foldl max x ∧ ∀ y ∈ xs, y ≤ xs.foldl max x
  | [], x => ⟨.inl rfl, Int.le_refl _, fun _ h => nomatch h⟩
  | y :: ys, x => by
    obtain ⟨h1, h2, h3⟩ := foldl_max_mem ys (max x y)
    simp only [List.foldl_cons]
    refine ⟨?_, by omega, fun z hz => ?_⟩
    · rcases h1 with h1 | h1
      · rw [h1]
        by_cases q : x ≤ y
        · exact .inr (by rw [Int.max_eq_right q]; exact List.mem_cons_self)
        · exact .inl (Int.max_eq_left (by omega))
      · exact .inr (List.mem_cons_of_mem _ h1)
    · rcases List.mem_cons.mp hz with rfl | hz
      · omega
      · exact h3 z hz
theorem foldl_min_mem : ∀ (xs : List Int) (x : Int), (xs.foldl min x = x ∨ xs.foldl min x ∈ xs) ∧ xs.foldl min x ≤ x ∧ ∀ y ∈ xs, xs.foldl min x ≤ y
  | [], x => ⟨.inl rfl, Int.le_refl _, fun _ h => nomatch h⟩
  | y :: ys, x => by
    obtain ⟨h1, h2, h3⟩ := foldl_min_mem ys (min x y)
    simp only [List.foldl_cons]
    refine ⟨?_, by omega, fun z hz => ?_⟩
    · rcases h1 with h1 | h1
      · rw [h1]
        by_cases q : x ≤ y
        · exact .inl (Int.min_eq_left q)
        · exact .inr (by rw [Int.min_eq_right (by omega)]; exact List.mem_cons_self)
      · exact .inr (List.mem_cons_of_mem _ h1)
    · rcases List.mem_cons.mp hz with rfl | hz
      · omega
      · exact h3 z hz
theorem sf_max (hc : X.calm = true) : CallR X (.builtin "max") (rFn .max) := by
  intro pins s σ H xs us Q I rx h
  obtain ⟨F, x, d, z, rfl, hF, hd, hz, hq⟩ := h
  obtain ⟨xs, ns, m, eq, hn, hm, rfl⟩ := evIntsT_of hz
  cases ns with
  | nil => cases hm
  | cons n ns =>
    cases hm
    obtain ⟨k1, k2, k3⟩ := foldl_max_mem ns n
    suffices fin : ∀ m', m' ∈ n :: ns → (∀ y, y ∈ n :: ns → y ≤ m') → Q (.int m') H by
      rcases eq with rfl | rfl
      · obtain ⟨a, vs, rfl, h1, h2⟩ := hd.list hF
        have e := h2.ints hn
        subst e
        exact cr_max hc pins s σ H _ us Q I rx ⟨a, n :: ns, rfl, SqL.of h1, by simp, fin⟩
      · obtain ⟨a, vs, rfl, h1, h2⟩ := hd.tuple
        have e := h2.ints hn
        subst e
        exact cr_maxT hc pins s σ H _ us Q I rx ⟨a, n :: ns, rfl, SqT.of (hF _ _ h1), by simp, fin⟩
    intro m' hm hle
    have e : m' = ns.foldl max n := by
      have a1 : ns.foldl max n ≤ m' := hle _ (by
        rcases k1 with k1 | k1
        · rw [k1]; exact List.mem_cons_self
        · exact List.mem_cons_of_mem _ k1)
      have a2 : m' ≤ ns.foldl max n := by
        rcases List.mem_cons.mp hm with rfl | hm
        · exact k2
        · exact k3 _ hm
      omega
    rw [e]
    exact hq.at hF (.int _)
theorem sf_min (hc : X.calm = true) : CallR X (.builtin "min") (rFn .min) := by
  intro pins s σ H xs us Q I rx h
  obtain ⟨F, x, d, z, rfl, hF, hd, hz, hq⟩ := h
  obtain ⟨xs, ns, m, rfl, hn, hm, rfl⟩ := evInts_of hz
  obtain ⟨a, vs, rfl, h1, h2⟩ := hd.list hF
  have e := h2.ints hn
  subst e
  cases ns with
  | nil => cases hm
  | cons n ns =>
    cases hm
    obtain ⟨k1, k2, k3⟩ := foldl_min_mem ns n
    refine cr_min hc pins s σ H _ us Q I rx ⟨a, n :: ns, rfl, SqL.of h1, by simp, fun m' hm hle => ?_⟩
    have e : m' = ns.foldl min n := by
      have a1 : m' ≤ ns.foldl min n := hle _ (by
        rcases k1 with k1 | k1
        · rw [k1]; exact List.mem_cons_self
        · exact List.mem_cons_of_mem _ k1)
      have a2 : ns.foldl min n ≤ m' := by
        rcases List.mem_cons.mp hm with rfl | hm
        · exact k2
        · exact k3 _ hm
      omega
    rw [e]
    exact hq.at hF (.int _)
theorem sf_all (hc : X.calm = true) : CallR X (.builtin "all") (rFn .all) := by
  intro pins s σ H xs us Q I rx h
  obtain ⟨F, x, d, z, rfl, hF, hd, hz, hq⟩ := h
  obtain ⟨xs, ns, rfl, hn, rfl⟩ := evBls_of hz
  obtain ⟨a, vs, rfl, h1, h2⟩ := hd.list hF
  have e := h2.bls hn
  subst e
  exact cr_all hc pins s σ H _ us Q I rx ⟨a, ns, rfl, SqL.of h1, hq.at hF (.bl _)⟩
theorem sf_any (hc : X.calm = true) : CallR X (.builtin "any") (rFn .any) := by
  intro pins s σ H xs us Q I rx h
  obtain ⟨F, x, d, z, rfl, hF, hd, hz, hq⟩ := h
  obtain ⟨xs, ns, rfl, hn, rfl⟩ := evBls_of hz
  obtain ⟨a, vs, rfl, h1, h2⟩ := hd.list hF
  have e := h2.bls hn
  subst e
  exact cr_any hc pins s σ H _ us Q I rx ⟨a, ns, rfl, SqL.of h1, hq.at hF (.bl _)⟩

def rUn (p : Fn1) : V → Hp → VK → Prop := fun x H Q => ∃ F d z, Same F H ∧ DatT F H x d ∧ evFn1 p d = some z ∧ PostP F H z Q
theorem su_neg : UnR X (unaryOp .USub) (rUn .neg) := by
  intro pins s σ H x v Q I rx h
  obtain ⟨F, d, z, hF, hd, hz, hq⟩ := h
  replace hz : evNeg d = some z := hz
  unfold evNeg at hz
  split at hz
  · cases hz
    rw [hd.int] at rx
    exact un_neg pins s σ H _ v Q I rx ⟨_, rfl, hq.at hF (.int _)⟩
  · cases hz
theorem isNone_V {F H : Hp} {x : V} {d : D} (h : DatT F H x d) : decide (x = .non) = isNone d := by
  cases h with
  | dat h =>
    cases h with
    | non => rfl
    | _ => exact decide_eq_false (fun z => nomatch z)
  | _ => exact decide_eq_false (fun z => nomatch z)
/-- x is None, by values -/
def rIsN (p : Fn1) : R2 := fun x y H Q => ∃ F d z, y = .non ∧ Same F H ∧ DatT F H x d ∧ evFn1 p d = some z ∧ PostP F H z Q
theorem so_isN : OpR X (compareOp .Is) (rIsN .isN) := by
  intro pins s σ H x y v u Q I rx ry h
  obtain ⟨F, d, z, rfl, hF, hd, hz, hq⟩ := h
  cases hz
  refine op_isN pins s σ H x .non v u Q I rx ry ⟨rfl, ?_⟩
  rw [isNone_V hd]
  exact hq.at hF (.bl _)
theorem so_notN : OpR X (compareOp .IsNot) (rIsN .notN) := by
  intro pins s σ H x y v u Q I rx ry h
  obtain ⟨F, d, z, rfl, hF, hd, hz, hq⟩ := h
  cases hz
  refine op_notN pins s σ H x .non v u Q I rx ry ⟨rfl, ?_⟩
  rw [isNone_V hd]
  exact hq.at hF (.bl _)

/-! ### builtins and methods of two arguments -/
def rFn2 (p : Fn2) : List V → Hp → VK → Prop := fun xs H Q => ∃ F x y d e z, xs = [x, y] ∧ Same F H ∧ DatT F H x d ∧ DatT F H y e ∧ evFn2 p d e = some z ∧ PostP F H z Q
theorem evBest_of {f : Int → Int → Int} {d e : D} {z : Vl} (h : evBest f d e = some z) : ∃ i j, d = .int i ∧ e = .int j ∧ z = .dat (.int (f i j)) := by
  unfold evBest at h
  split at h
  · cases h
    exact ⟨_, _, rfl, rfl, rfl⟩
  · cases h
theorem sf2_max (hc : X.calm = true) : CallR X (.builtin "max") (rFn2 .max) := by
  intro pins s σ H xs us Q I rx h
  obtain ⟨F, x, y, d, e, z, rfl, hF, hd, he, hz, hq⟩ := h
  obtain ⟨i, j, rfl, rfl, rfl⟩ := evBest_of hz
  rw [hd.int, he.int] at rx
  exact call_max2 hc pins s σ H _ us Q I rx ⟨i, j, rfl, hq.at hF (.int _)⟩
theorem sf2_min (hc : X.calm = true) : CallR X (.builtin "min") (rFn2 .min) := by
  intro pins s σ H xs us Q I rx h
  obtain ⟨F, x, y, d, e, z, rfl, hF, hd, he, hz, hq⟩ := h
  obtain ⟨i, j, rfl, rfl, rfl⟩ := evBest_of hz
  rw [hd.int, he.int] at rx
  exact call_min2 hc pins s σ H _ us Q I rx ⟨i, j, rfl, hq.at hF (.int _)⟩
def rMt (p : Fn2) : V → List V → Hp → VK → Prop := fun x xs H Q => ∃ F y d e z, xs = [y] ∧ Same F H ∧ DatT F H x d ∧ DatT F H y e ∧ evFn2 p d e = some z ∧ PostP F H z Q
theorem flat_V {F H : Hp} {x : V} {d : D} (h : DatT F H x d) (f : flatD d = true) : flatV x = true ∧ Dat F x d := by
  cases h with
  | dat h =>
    cases h with
    | non => exact ⟨rfl, .non⟩
    | bl b => exact ⟨rfl, .bl b⟩
    | int b => exact ⟨rfl, .int b⟩
    | str b => exact ⟨rfl, .str b⟩
    | _ => cases f
  | _ => cases f
theorem eqV_D {F : Hp} {x y : V} {d e : D} (h : Dat F x d) (k : Dat F y e) (f : flatD d = true) (g : flatD e = true) : eqV x y = PyData.eqv d e := by
  cases h <;> first | (cases f; done) | (cases k <;> first | (cases g; done) | rfl)
theorem flat_all {F : Hp} : ∀ {vs : List V} {ds : List D}, DatL F vs ds → ds.all flatD = true → vs.all flatV = true
  | _, _, .nil, _ => rfl
  | _, _, .cons a b, h => by
    rw [List.all_cons, Bool.and_eq_true] at h ⊢
    exact ⟨(flat_V (F := F) (H := F) (.dat a) h.1).1, flat_all b h.2⟩
theorem firstAt_of {d : D} : ∀ {xs : List D} {k : Nat}, firstAt d xs = some k → ∃ x, xs[k]? = some x ∧ PyData.eqv x d = true ∧ ∀ m x', m < k → xs[m]? = some x' → PyData.eqv x' d = false
  | [], k, h => by cases h
  | x :: xs, k, h => by
    unfold firstAt at h
    split at h
    · rename_i he
      cases h
      exact ⟨x, rfl, he, fun m _ hm => absurd hm (Nat.not_lt_zero _)⟩
    · rename_i he
      cases q : firstAt d xs with
      | none => rw [q] at h; cases h
      | some j =>
        rw [q] at h
        cases h
        obtain ⟨y, h1, h2, h3⟩ := firstAt_of q
        refine ⟨y, by simpa using h1, h2, fun m x' hm hx => ?_⟩
        cases m with
        | zero =>
          simp at hx
          subst hx
          simpa using he
        | succ m => exact h3 m x' (Nat.lt_of_succ_lt_succ hm) (by simpa using hx)
theorem sm_index : MtR X "list.index" (rMt .index) := by
  intro pins s σ H x xs v us Q I rx rxs h
  obtain ⟨F, y, d, e, z, rfl, hF, hd, he, hz, hq⟩ := h
  replace hz : evIndex d e = some z := hz
  unfold evIndex at hz
  split at hz
  · split at hz
    · rename_i ys hf
      rw [Bool.and_eq_true] at hf
      cases hk : firstAt e ys with
      | none => rw [hk] at hz; cases hz
      | some k =>
        rw [hk] at hz
        cases hz
        obtain ⟨a, vs, rfl, h1, h2⟩ := hd.list hF
        obtain ⟨w, k1, k2, k3⟩ := firstAt_of hk
        obtain ⟨b, hb, hw⟩ := h2.get k1
        obtain ⟨fy, hy⟩ := flat_V he hf.1
        have fw : flatD w = true := List.all_eq_true.mp hf.2 w (List.mem_of_getElem? k1)
        refine mt_index pins s σ H _ _ v us Q I rx rxs ⟨a, vs, y, k, b, rfl, rfl, SqL.of h1, fy, flat_all h2 hf.2, hb, ?_, fun m z' hm hz' => ?_, hq.at hF (.int _)⟩
        · rw [eqV_D hw hy fw hf.1]; exact k2
        · obtain ⟨w', q1, q2⟩ := h2.getV hz'
          rw [eqV_D q2 hy (List.all_eq_true.mp hf.2 w' (List.mem_of_getElem? q1)) hf.1]
          exact k3 m w' hm q1
    · cases hz
  · cases hz
theorem countP_eqU {F : Hp} {y : V} {e : D} (hy : Dat F y e) (fe : flatD e = true) : ∀ {vs : List V} {ds : List D} {us : List Value}, DatL F vs ds → ds.all flatD = true → Vals vs us → us.countP (eqU y) = (ds.filter fun x => PyData.eqv x e).length
  | _, _, _, .nil, _, r => by cases r; rfl
  | _, _, _, .cons a b, f, r => by
    cases r with
    | cons r1 r2 =>
      rw [List.all_cons, Bool.and_eq_true] at f
      have ih := countP_eqU hy fe b f.2 r2
      rw [List.countP_cons, ih, eqU_of r1 (flat_V (F := F) (H := F) (.dat a) f.1).1, eqV_D a hy f.1 fe, List.filter_cons]
      split <;> simp
theorem sm_count : MtR X "list.count" (rMt .count) := by
  intro pins s σ H x xs v us Q I rx rxs h
  obtain ⟨F, y, d, e, z, rfl, hF, hd, he, hz, hq⟩ := h
  replace hz : evCount d e = some z := hz
  unfold evCount at hz
  split at hz
  · split at hz
    · rename_i ys hf
      rw [Bool.and_eq_true] at hf
      cases hz
      obtain ⟨a, vs, rfl, h1, h2⟩ := hd.list hF
      obtain ⟨fy, hy⟩ := flat_V he hf.1
      cases rx
      obtain ⟨u, rfl, ru⟩ := rxs.one
      obtain ⟨its, rv, ⟨⟨cls, dd, data, sl⟩, n, ho, hc, hdn, hdt⟩, hlen⟩ := I.list (SqL.of (K := X.K) h1)
      simp only at hc hdt
      subst hc hdt
      refine call_meets PySem.F.slot_list_count ⟨_, ho, rfl⟩ PySem.F.entry_list_count (PySem.F.args_list_count_2 _ _)
        (SeqAt.list_countAt a its.toArray n dd sl u (eqU y)) ⟨ho, fun w hw => mem_eqAt ru fy rv (flat_all h2 hf.2) w (by simpa using hw), ?_⟩
      refine ⟨.int _, H, I.tok _, ⟨s.toks, ?_⟩, hq.at hF (.int _)⟩
      have e1 := countP_eqU hy hf.1 h2 hf.2 rv
      show Value.int ((its.toArray.toList.countP (eqU y) : Nat) : Int) s.toks = _
      rw [show its.toArray.toList = its from rfl, e1]
    · cases hz
  · cases hz

/-! ### slices -/
def rCut : V → Option Int → Option Int → Hp → VK → Prop := fun x lo hi H Q => ∃ F d z, Same F H ∧ DatT F H x d ∧ (match d with
  | .list xs => z = Vl.newL (cut xs lo hi)
  | .tuple xs => z = Vl.dat (.tuple (cut xs lo hi))
  | _ => False) ∧ PostP F H z Q
theorem DatL.cut {F : Hp} {vs : List V} {ds : List D} (h : DatL F vs ds) (lo hi : Option Int) : DatL F (L2.cutV vs lo hi) (Fc.cut ds lo hi) := by
  unfold L2.cutV Fc.cut
  rw [h.length]
  exact (h.drop _).take _
theorem cut_whole {xs : List D} {lo hi : Option Int} (h : HT.sIx xs.length 0 lo = 0 ∧ HT.sIx xs.length xs.length hi = xs.length) : Fc.cut xs lo hi = xs := by
  unfold Fc.cut
  rw [h.1, h.2, List.drop_zero, Nat.sub_zero, List.take_length]
theorem ss_cut : SlR X rCut := by
  intro pins s σ H x v vl vu lo hi sl Q I rx hs pl pu h
  obtain ⟨F, d, z, hF, hd, hz, hq⟩ := h
  split at hz
  · subst hz
    obtain ⟨a, vs, rfl, h1, h2⟩ := hd.list hF
    exact sl_list pins s σ H _ v vl vu lo hi sl Q I rx hs pl pu ⟨a, vs, rfl, SqL.of h1, fun p hp => hq.newL hF hp (h2.cut lo hi)⟩
  · subst hz
    obtain ⟨a, vs, rfl, h1, h2⟩ := hd.tuple
    refine sl_tupA pins s σ H _ v vl vu lo hi sl Q I rx hs pl pu ⟨a, vs, rfl, SqT.of (hF _ _ h1), fun hw => ?_, fun _ p hp => hq.tup hF hp (h2.cut lo hi)⟩
    rw [h2.length] at hw
    rw [cut_whole hw] at hq
    exact hq.at hF (.tup h1 h2)
  · exact hz.elim
end
end Fc
namespace Fc
open PySem PySem.Spec PyProof.Rows L2
section
variable {X : Cx}
theorem plain_noDict : ∀ (n : Nat) (d : D), fit n d = true → d.hasDict = false := by
  intro n
  induction n with
  | zero =>
    intro d h
    cases d with
    | list _ => cases h
    | tuple _ => cases h
    | dict _ => cases h
    | _ => rfl
  | succ n ih =>
    have all : ∀ xs : List D, xs.all (fit n) = true → PyData.hasDictAll xs = false := by
      intro xs
      induction xs with
      | nil => intro _; rfl
      | cons x xs ih2 =>
        intro h
        rw [List.all_cons, Bool.and_eq_true] at h
        show (x.hasDict || PyData.hasDictAll xs) = false
        rw [ih x h.1, ih2 h.2]; rfl
    intro d h
    cases d with
    | list xs => exact all xs h
    | tuple xs => exact all xs h
    | dict _ => cases h
    | _ => rfl
end
end Fc

/-! readings of the pure code -/
namespace Fc
open PySem PySem.Spec PyProof.Rows L2

section
variable (K : PySem.W.Frag) (U : Au) (W : WX)
/-- what is wanted behind an expression -/
def PostE (F G : Hp) (σ : L2.St) (m : R Vl) (Q : VK) : Prop := match m with
  | .ok v s' => ∀ u H' F', Same F F' → Rep K U F' G H' σ s' → RepV K U F' G H' σ s' u v → Q u H'
  | .exc c s' => ∀ H' F', Same F F' → Rep K U F' G H' σ s' → W (.ref (U.ea c)) none σ H'
  | .bad => False
/-- .. behind something that gives plain data alone (a truth, a number) -/
def PostT {α : Type} (F G : Hp) (σ : L2.St) (m : R α) (Q : α → Hp → Prop) : Prop := match m with
  | .ok b s' => ∀ H' F', Same F F' → Rep K U F' G H' σ s' → Q b H'
  | .exc c s' => ∀ H' F', Same F F' → Rep K U F' G H' σ s' → W (.ref (U.ea c)) none σ H'
  | .bad => False
def tmps : List V → List Vl → List Addr
  | u :: us, v :: vs => (match v, u with
    | .newL _, .ref p => [p]
    | .newD _, .ref p => [p]
    | _, _ => []) ++ tmps us vs
  | _, _ => []
structure RepVs (F G H : Hp) (σ : L2.St) (s : St) (us : List V) (vs : List Vl) : Prop where
  p : Paired (RepV K U F G H σ s) us vs
  nd : (tmps us vs).Nodup
def PostA (F G : Hp) (σ : L2.St) (m : R (List Vl)) (Q : List V → Hp → Prop) : Prop := match m with
  | .ok vs s' => ∀ us H' F', Same F F' → Rep K U F' G H' σ s' → RepVs K U F' G H' σ s' us vs → Q us H'
  | .exc c s' => ∀ H' F', Same F F' → Rep K U F' G H' σ s' → W (.ref (U.ea c)) none σ H'
  | .bad => False

variable (Φ : Nat → List Ar → Out)
def tE (c : E) : TE := fun σ H Q => ∃ F G s, Rep K U F G H σ s ∧ PostE K U W F G σ (dE Φ c s) Q
def tT (c : E) : TT := fun σ H Q => ∃ F G s, Rep K U F G H σ s ∧ PostT K U W F G σ ((dE Φ c s).bind tru) Q
def tA (c : Es) : TA := fun σ H Q => ∃ F G s, Rep K U F G H σ s ∧ PostA K U W F G σ (dEs Φ c s) Q
end

section
variable {K : PySem.W.Frag} {U : Au} {W : WX} {Φ : Nat → List Ar → Out} {F F' G G' H H' : Hp} {σ : L2.St} {s s' : St} {u : V} {v : Vl}
theorem PostE.mono {m : R Vl} {Q : VK} (h : PostE K U W F G σ m Q) (e : Same F F') : PostE K U W F' G σ m Q := by
  cases m with
  | ok v s' => exact fun u H' F'' a b c => h u H' F'' (e.trans a) b c
  | exc c s' => exact fun H' F'' a b => h H' F'' (e.trans a) b
  | bad => exact h
theorem PostT.mono {α : Type} {m : R α} {Q : α → Hp → Prop} (h : PostT K U W F G σ m Q) (e : Same F F') : PostT K U W F' G σ m Q := by
  cases m with
  | ok v s' => exact fun H' F'' a b => h H' F'' (e.trans a) b
  | exc c s' => exact fun H' F'' a b => h H' F'' (e.trans a) b
  | bad => exact h
theorem PostA.mono {m : R (List Vl)} {Q : List V → Hp → Prop} (h : PostA K U W F G σ m Q) (e : Same F F') : PostA K U W F' G σ m Q := by
  cases m with
  | ok v s' => exact fun us H' F'' a b c => h us H' F'' (e.trans a) b c
  | exc c s' => exact fun H' F'' a b => h H' F'' (e.trans a) b
  | bad => exact h
theorem PostE.imp {m : R Vl} {Q Q' : VK} (h : PostE K U W F G σ m Q) (k : ∀ u H, Q u H → Q' u H) : PostE K U W F G σ m Q' := by
  cases m with
  | ok v s' => exact fun u H' F'' a b c => k _ _ (h u H' F'' a b c)
  | exc c s' => exact h
  | bad => exact h

/-- the wish may be of any of the three kinds -/
structure Wish (K : PySem.W.Frag) (U : Au) (W : WX) (G : Hp) (σ : L2.St) (β : Type) where
  P : Hp → R β → Prop
  mono : ∀ {F F' : Hp} {m : R β}, P F m → Same F F' → P F' m
  exc : ∀ {F : Hp} {c : Nat} {s : St}, P F (.exc c s) → ∀ H' F', Same F F' → Rep K U F' G H' σ s → W (.ref (U.ea c)) none σ H'
  bad : ∀ {F : Hp}, ¬ P F .bad
def wE (K : PySem.W.Frag) (U : Au) (W : WX) (G : Hp) (σ : L2.St) (Q : VK) : Wish K U W G σ Vl := ⟨fun F m => PostE K U W F G σ m Q, fun h e => PostE.mono h e, fun h => h, fun h => h⟩
def wT (K : PySem.W.Frag) (U : Au) (W : WX) (G : Hp) (σ : L2.St) {α : Type} (Q : α → Hp → Prop) : Wish K U W G σ α := ⟨fun F m => PostT K U W F G σ m Q, fun h e => PostT.mono h e, fun h => h, fun h => h⟩
def wA (K : PySem.W.Frag) (U : Au) (W : WX) (G : Hp) (σ : L2.St) (Q : List V → Hp → Prop) : Wish K U W G σ (List Vl) := ⟨fun F m => PostA K U W F G σ m Q, fun h e => PostA.mono h e, fun h => h, fun h => h⟩

/-- an expression, then what hangs on it -/
theorem seqE {β : Type} (w : Wish K U W G σ β) {c : E} {f : Vl → St → R β} {Q1 : VK} (R : Rep K U F G H σ s) (hP : w.P F ((dE Φ c s).bind f))
    (k : ∀ v s1 u H1 F1, Same F F1 → Rep K U F1 G H1 σ s1 → RepV K U F1 G H1 σ s1 u v → w.P F1 (f v s1) → Q1 u H1) : tE K U W Φ c σ H Q1 := by
  refine ⟨F, G, s, R, ?_⟩
  cases e : dE Φ c s with
  | ok v s1 =>
    rw [e] at hP
    exact fun u H1 F1 a b c => k v s1 u H1 F1 a b c (w.mono hP a)
  | exc c s1 =>
    rw [e] at hP
    exact w.exc hP
  | bad =>
    rw [e] at hP
    exact w.bad hP
/-- a second expression while a value is kept aside -/
theorem seqE2 {β : Type} (w : Wish K U W G σ β) {c : E} {f : Vl → St → R β} {Q1 : VK} (R : Rep K U F G H σ s) (hv : RepV K U F G H σ s u v) (hP : w.P F ((dE Φ c s).bind f))
    (k : ∀ v2 s1 u2 H1 F1, Same F F1 → Rep K U F1 G H1 σ s1 → RepV K U F1 G H1 σ s1 u v → RepV K U F1 (held H1 u v G) H1 σ s1 u2 v2 → w.P F1 (f v2 s1) → Q1 u2 H1) : tE K U W Φ c σ H Q1 := by
  refine ⟨F, held H u v G, s, R.held hv, ?_⟩
  have hs := held_same R hv
  cases e : dE Φ c s with
  | ok v2 s1 =>
    rw [e] at hP
    intro u2 H1 F1 a b c
    have hk := hv.kept a b
    have he : Same (held H1 u v G) (held H u v G) := fun x o hx => by
      cases v with
      | newL xs =>
        obtain ⟨p, vs, rfl, h1, h2, h3, h4, h5⟩ := hv
        have hp : held H (.ref p) (.newL xs) G p = some (.lst vs) := by
          show (if p = p then H p else G p) = _
          rw [if_pos rfl]; exact h1
        have hp1 := b.gh p _ hp
        have hx : (if x = p then H1 p else G x) = some o := hx
        show (if x = p then H p else G x) = some o
        by_cases q : x = p
        · rw [if_pos q] at hx ⊢; rw [h1, ← hp1]; exact hx
        · rw [if_neg q] at hx ⊢; exact hx
      | newD xs =>
        obtain ⟨p, vs, rfl, h1, h2, h3, h4, h5⟩ := hv
        have hp : held H (.ref p) (.newD xs) G p = some vs := by
          show (if p = p then H p else G p) = _
          rw [if_pos rfl]; exact h1
        have hp1 := b.gh p _ hp
        have hx : (if x = p then H1 p else G x) = some o := hx
        show (if x = p then H p else G x) = some o
        by_cases q : x = p
        · rw [if_pos q] at hx ⊢; rw [h1, ← hp1]; exact hx
        · rw [if_neg q] at hx ⊢; exact hx
      | _ => exact hx
    exact k v2 s1 u2 H1 F1 a (b.less hs) hk (c.less he) (w.mono hP a)
  | exc c s1 =>
    rw [e] at hP
    exact fun H' F' a b => w.exc hP H' F' a (b.less hs)
  | bad =>
    rw [e] at hP
    exact w.bad hP
/-- a new value behind an operation -/
theorem NewV.rep {z : Vl} (R : Rep K U F G H σ s) (g : Grow F H F' H') (h : NewV F H F' H' u z) : RepV K U F' G H' σ s u z := by
  cases z with
  | dat d => exact h
  | newL xs =>
    obtain ⟨p, vs, rfl, h1, h2, h3, h4⟩ := h
    refine ⟨p, vs, rfl, h3, h2, R.gh.free h1, h4, fun i b hb ho z => ?_⟩
    obtain ⟨p', o, z1, z2, _, _⟩ := R.own hb ho
    rw [z] at z1; cases z1
    rw [h1] at z2; cases z2
  | newD xs =>
    obtain ⟨p, o, rfl, h1, h2, h3, h4⟩ := h
    refine ⟨p, o, rfl, h3, h2, R.gh.free h1, h4, fun i b hb ho z => ?_⟩
    obtain ⟨p', o, z1, z2, _, _⟩ := R.own hb ho
    rw [z] at z1; cases z1
    rw [h1] at z2; cases z2
  | _ => exact h.elim
theorem postP_of {z : Vl} {Q : VK} (R : Rep K U F G H σ s) (h : PostE K U W F G σ (.ok z s) Q) : PostP F H z Q := fun u H' F' g n => h u H' F' g.f (R.grow g) (n.rep R g)
/-- the same where the truth of the answer is asked -/
theorem postP_tru {z : Vl} {Q : Bool → Hp → Prop} (R : Rep K U F G H σ s) (h : PostT K U W F G σ (tru z s) Q) : PostP F H z fun x H' => ∃ c, x = .bl c ∧ Q c H' := fun u H' F' g n => by
  unfold tru at h
  cases z with
  | dat d =>
    cases d with
    | bool b =>
      cases n
      exact ⟨b, rfl, h H' F' g.f (R.grow g)⟩
    | _ => exact h.elim
  | newL xs => exact h.elim
  | newD xs => exact h.elim
  | _ => exact n.elim
theorem repV_tru {z : Vl} {Q : Bool → Hp → Prop} (R : Rep K U F G H σ s) (hz : RepV K U F G H σ s u z) (h : PostT K U W F G σ (tru z s) Q) : ∃ c, u = .bl c ∧ Q c H := by
  unfold tru at h
  cases e : peek s z with
  | none => rw [e] at h; exact h.elim
  | some d =>
    rw [e] at h
    have hd := peek_dat R hz e
    cases d with
    | bool b => exact ⟨b, hd.bool, h H F (Same.refl _) R⟩
    | _ => exact h.elim
end
end Fc

/-! the rules, one for each construct of an expression -/
namespace Fc
open PySem PySem.Spec PyProof.Rows L2

theorem PE.imp {X : Cx} {e : Expr} {t t' : TE} (h : PE X e t) (k : ∀ σ H Q, t' σ H Q → t σ H Q) : PE X e t' := ⟨fun pins s σ H Q I hw => h.run pins s σ H Q I (k σ H Q hw)⟩
theorem PT.imp {X : Cx} {e : Expr} {t t' : TT} (h : PT X e t) (k : ∀ σ H Q, t' σ H Q → t σ H Q) : PT X e t' := ⟨fun pins s σ H Q I hw => h.run pins s σ H Q I (k σ H Q hw)⟩
theorem PW.imp {X : Cx} {e : Expr} {t t' : TT} (h : PW X e t) (k : ∀ σ H Q, t' σ H Q → t σ H Q) : PW X e t' := ⟨fun wh pins s σ H Q I hw => h.run wh pins s σ H Q I (k σ H Q hw)⟩
theorem PA.imp {X : Cx} {e : List Expr} {t t' : TA} (h : PA X e t) (k : ∀ σ H Q, t' σ H Q → t σ H Q) : PA X e t' := ⟨fun pos pins s σ H Q I hw => h.run pos pins s σ H Q I (k σ H Q hw)⟩
theorem PS.imp {X : Cx} {e : Stmt} {t t' : TS} (h : PS X e t) (k : ∀ D σ H, t' D σ H → t D σ H) : PS X e t' := ⟨fun pins s σ H D I hw => h.run pins s σ H D I (k D σ H hw)⟩
theorem PSs.imp {X : Cx} {e : List Stmt} {t t' : TS} (h : PSs X e t) (k : ∀ D σ H, t' D σ H → t D σ H) : PSs X e t' := ⟨fun pins s σ H D I hw => h.run pins s σ H D I (k D σ H hw)⟩

theorem op2_eq {p : Op2} {v w : Vl} {s : St} (h : ∀ ns, v ≠ .scr ns) : op2 p v w s = match peek s v, peek s w with
    | some d, some e => ofO s (evOp2 p d e)
    | _, _ => .bad := by
  cases v <;> first | rfl | exact absurd rfl (h _)
theorem fn1_eq {p : Fn1} {v : Vl} {s : St} (h : ∀ ns, v ≠ .scr ns) : fn1 p v s = match peek s v with
    | some d => ofO s (evFn1 p d)
    | none => .bad := by
  cases v <;> first | rfl | exact absurd rfl (h _)
theorem bind_bind {α β γ : Type} (m : R α) (f : α → St → R β) (g : β → St → R γ) : (m.bind f).bind g = m.bind fun a s => (f a s).bind g := by
  cases m <;> rfl

section
variable {X : Cx} {U : Au} {W : WX} {Φ : Nat → List Ar → Out} {F F' G G' H H' : Hp} {σ : L2.St} {s s' : St} {u u2 : V} {v w : Vl} {a b c : Expr} {ca cb cc : E} {pos : Pos}

/-- an operation's wish, value or truth -/
def PP (F H : Hp) (m : St → Vl → Prop) (s : St) (Q : VK) : Prop := ∀ z, m s z → PostP F H z Q

theorem op2_rel {p : Op2} {Q : VK} {K : PySem.W.Frag} (w' : Wish K U W G σ Vl) (hw : ∀ {z : Vl}, w'.P F (.ok z s) → PostP F H z Q) (R : Rep K U F G H σ s) (hv : RepV K U F G H σ s u v) (hv2 : RepV K U F G H σ s u2 w) (hn : ∀ ns, v ≠ .scr ns) (hP : w'.P F (op2 p v w s)) : rOp p u u2 H Q := by
  rw [op2_eq hn] at hP
  cases e1 : peek s v with
  | none => rw [e1] at hP; exact (w'.bad hP).elim
  | some d =>
    cases e2 : peek s w with
    | none => rw [e1, e2] at hP; exact (w'.bad hP).elim
    | some e =>
      rw [e1, e2] at hP
      cases q : evOp2 p d e with
      | none => simp only [q] at hP; exact (w'.bad hP).elim
      | some z =>
        simp only [q] at hP
        exact ⟨F, d, e, z, R.fh, peek_dat R hv e1, peek_dat R hv2 e2, q, hw hP⟩
theorem op2_scr {p : Op2} {ns : List Int} {β : Type} {K : PySem.W.Frag} (hp : p ≠ .ix) : op2 p (.scr ns) w s = .bad := by
  cases p <;> first | rfl | exact absurd rfl hp
theorem held_less (R : Rep X.K U F G H σ s) (hv : RepV X.K U F G H σ s u v) (h : RepV X.K U F (held H u v G) H σ s u2 w) : RepV X.K U F G H σ s u2 w := h.less (held_same R hv)

theorem op2_go {p : Op2} {Q : VK} {K : PySem.W.Frag} (hp : p ≠ .ix) (w' : Wish K U W G σ Vl) (hw : ∀ {z : Vl}, w'.P F (.ok z s) → PostP F H z Q) (R : Rep K U F G H σ s) (hv : RepV K U F G H σ s u v) (hv2 : RepV K U F G H σ s u2 w) (hP : w'.P F (op2 p v w s)) : rOp p u u2 H Q := by
  by_cases hn : ∀ ns, v ≠ .scr ns
  · exact op2_rel w' hw R hv hv2 hn hP
  · have ⟨ns, e⟩ : ∃ ns, v = .scr ns := Classical.byContradiction fun z => hn fun ns e => z ⟨ns, e⟩
    subst e
    have e2 : op2 p (.scr ns) w s = .bad := by
      cases p <;> first | rfl | exact absurd rfl hp
    rw [e2] at hP
    exact (w'.bad hP).elim

theorem xe_bin {op : Operator} {p : Op2} (hp : p ≠ .ix) (ho : OpR X (binaryOp op) (rOp p)) (ha : PE X a (tE X.K U W Φ ca)) (hb : PE X b (tE X.K U W Φ cb)) : PE X (.BinOp a op b pos) (tE X.K U W Φ (.op2 p ca cb)) := by
  refine PE.imp (pe_op ho ha hb) fun σ H Q ⟨F, G, s, R, hP⟩ => ?_
  refine seqE (wE X.K U W G σ Q) R hP fun v s1 u H1 F1 e1 R1 hv hP1 => ?_
  refine seqE2 (wE X.K U W G σ Q) R1 hv hP1 fun v2 s2 u2 H2 F2 e2 R2 hv' hv2 hP2 => ?_
  exact op2_go hp (wE X.K U W G σ Q) (fun h => postP_of (W := W) R2 h) R2 hv' (held_less R2 hv' hv2) hP2
theorem xe_cmp {op : CmpOp} {p : Op2} (hp : p ≠ .ix) (ho : OpR X (compareOp op) (rOp p)) (ha : PE X a (tE X.K U W Φ ca)) (hb : PE X b (tE X.K U W Φ cb)) (hm : behindInMarks op b = false) : PE X (.Compare a [op] [b] pos) (tE X.K U W Φ (.op2 p ca cb)) := by
  refine PE.imp (pe_cmpR ho ha hb hm) fun σ H Q ⟨F, G, s, R, hP⟩ => ?_
  refine seqE (wE X.K U W G σ Q) R hP fun v s1 u H1 F1 e1 R1 hv hP1 => ?_
  refine seqE2 (wE X.K U W G σ Q) R1 hv hP1 fun v2 s2 u2 H2 F2 e2 R2 hv' hv2 hP2 => ?_
  exact op2_go hp (wE X.K U W G σ Q) (fun h => postP_of (W := W) R2 h) R2 hv' (held_less R2 hv' hv2) hP2
/-- a wish about the truth of the answer -/
def wTr (K : PySem.W.Frag) (U : Au) (W : WX) (G : Hp) (σ : L2.St) (Q : Bool → Hp → Prop) : Wish K U W G σ Vl :=
  ⟨fun F m => PostT K U W F G σ (m.bind tru) Q, fun h e => PostT.mono h e, fun h => h, fun h => h⟩
theorem xt_cmp {op : CmpOp} {p : Op2} (hp : p ≠ .ix) (ho : OpR X (compareOp op) (rOp p)) (ha : PE X a (tE X.K U W Φ ca)) (hb : PE X b (tE X.K U W Φ cb)) (hm : behindInMarks op b = false) : PT X (.Compare a [op] [b] pos) (tT X.K U W Φ (.op2 p ca cb)) := by
  refine PT.imp (pt_cmpR ho ha hb hm) fun σ H Q ⟨F, G, s, R, hP⟩ => ?_
  refine seqE (wTr X.K U W G σ Q) R hP fun v s1 u H1 F1 e1 R1 hv hP1 => ?_
  refine seqE2 (wTr X.K U W G σ Q) R1 hv hP1 fun v2 s2 u2 H2 F2 e2 R2 hv' hv2 hP2 => ?_
  exact op2_go hp (wTr X.K U W G σ Q) (fun h => postP_tru (W := W) R2 h) R2 hv' (held_less R2 hv' hv2) hP2

/-- a plain expression as a test -/
def plainT : Expr → Bool
  | .UnaryOp .Not _ _ => false
  | .BoolOp .. => false
  | .IfExp .. => false
  | .Compare .. => false
  | _ => true
theorem plainT_eq {e : Expr} {env : Env} (h : plainT e = true) (whole : Sem Value) : isTrue e env whole = (do let v ← whole; standAt e.pos; holding [v] (truthy v)) := by
  cases e with
  | UnaryOp op x p => cases op <;> first | rfl | cases h
  | BoolOp => cases h
  | IfExp => cases h
  | Compare => cases h
  | _ => rfl
theorem xt_val {e : Expr} {c : E} (h : PE X e (tE X.K U W Φ c)) (hp : plainT e = true) : PT X e (tT X.K U W Φ c) := by
  refine PT.imp (pt_val h (plainT_eq hp)) fun σ H Q ⟨F, G, s, R, hP⟩ => ?_
  exact seqE (wT X.K U W G σ Q) R hP fun v s1 u H1 F1 e1 R1 hv hP1 => repV_tru R1 hv hP1

theorem xe_const {k : Const} {j : Nat} {d : D} (h : (match k with
    | .int i => some (PyData.int i)
    | .bool b => some (.bool b)
    | .none => some .none
    | .str x => some (.str x)
    | _ => none) = some d) : PE X (.Constant k j pos) (tE X.K U W Φ (.cst d)) := by
  cases k with
  | int i => cases h; exact PE.imp pe_int fun σ H Q ⟨F, G, s, R, hP⟩ => hP _ H F (Same.refl _) R (.int i)
  | bool i => cases h; exact PE.imp pe_bl fun σ H Q ⟨F, G, s, R, hP⟩ => hP _ H F (Same.refl _) R (.bl i)
  | none => cases h; exact PE.imp pe_non fun σ H Q ⟨F, G, s, R, hP⟩ => hP _ H F (Same.refl _) R .non
  | str i => cases h; exact PE.imp pe_str fun σ H Q ⟨F, G, s, R, hP⟩ => hP _ H F (Same.refl _) R (.str i)
  | _ => cases h

theorem xe_var {i : Nat} {x : Str} (hN : X.N[i]? = some x) (hv : Vis X.env.scope x) (hd : (x == ("__debug__" : Str)) = false) (hcd : (x == ("__classdict__" : Str)) = false) : PE X (.Name x pos) (tE X.K U W Φ (.var i)) := by
  refine PE.imp (pe_var hN hv hd hcd) fun σ H Q ⟨F, G, s, R, hP⟩ => ?_
  unfold dE at hP
  cases e : s[i]? with
  | none => simp only [e] at hP; exact hP.elim
  | some b =>
    have hb := R.b i b e
    simp only [e] at hP
    have get : ∀ {P : Prop}, (∀ v, σ[i]? = some (some v) → P) → (∀ {z : Option (Option V)}, z = σ[i]? → (∀ v, z ≠ some (some v)) → RepB X.K U F G H z b → P) → P := fun {P} h1 h2 => by
      cases q : σ[i]? with
      | none => exact h2 q.symm (fun _ z => nomatch z) (by rw [← q]; exact hb)
      | some o =>
        cases o with
        | none => exact h2 q.symm (fun _ z => nomatch z) (by rw [← q]; exact hb)
        | some v => exact h1 v q
    refine get (fun v q => ?_) (fun {z} _ hz hb => ?_)
    · rw [q] at hb
      refine ⟨v, q, ?_⟩
      cases b with
      | un => exact hP.elim
      | dat d => exact hP v H F (Same.refl _) R hb
      | lst xs => exact hP v H F (Same.refl _) R q
      | dct xs => exact hP v H F (Same.refl _) R q
      | io xs => exact hP v H F (Same.refl _) R q
      | fn f =>
        cases v with
        | ref p => exact hP _ H F (Same.refl _) R (congrArg V.ref hb)
        | _ => exact hb.elim
      | exc c =>
        cases v with
        | ref p => exact hP _ H F (Same.refl _) R ⟨p, rfl, hb⟩
        | _ => exact hb.elim
      | scr ns =>
        cases v with
        | ref p => exact hP _ H F (Same.refl _) R ⟨p, rfl, hb⟩
        | _ => exact hb.elim
    · match z, hz, hb with
      | none, _, hb => cases b <;> first | exact hP.elim | exact hb.elim
      | some none, _, hb => cases b <;> first | exact hP.elim | exact hb.elim
      | some (some v), hz, _ => exact absurd rfl (hz v)
theorem xe_glob {x : Str} {v : V} {u : Value} {d : D} (hg : Gl X x) (hm : X.mg x = some u) (r : RelV v u) (hd : ∀ F, Dat F v d) (hdb : (x == ("__debug__" : Str)) = false) : PE X (.Name x pos) (tE X.K U W Φ (.cst d)) :=
  PE.imp (pe_glob hg hm r hdb) fun σ H Q ⟨F, G, s, R, hP⟩ => hP _ H F (Same.refl _) R (hd F)
theorem xe_gfn {x : Str} {f : Nat} (hg : Gl X x) (hm : X.mg x = some (.ref (U.fa f))) (hdb : (x == ("__debug__" : Str)) = false) : PE X (.Name x pos) (tE X.K U W Φ (.gfn f)) :=
  PE.imp (pe_glob (v := .ref (U.fa f)) hg hm rfl hdb) fun σ H Q ⟨F, G, s, R, hP⟩ => hP _ H F (Same.refl _) R rfl

theorem xe_neg (ha : PE X a (tE X.K U W Φ ca)) : PE X (.UnaryOp .USub a pos) (tE X.K U W Φ (.fn1 .neg ca)) := by
  refine PE.imp (pe_un su_neg ha) fun σ H Q ⟨F, G, s, R, hP⟩ => ?_
  refine seqE (wE X.K U W G σ Q) R hP fun v s1 u H1 F1 e1 R1 hv hP1 => ?_
  replace hP1 : PostE X.K U W F1 G σ (fn1 .neg v s1) Q := hP1
  by_cases hn : ∀ ns, v ≠ .scr ns
  · rw [fn1_eq hn] at hP1
    cases e : peek s1 v with
    | none => rw [e] at hP1; exact hP1.elim
    | some d =>
      rw [e] at hP1
      cases q : evFn1 .neg d with
      | none => simp only [q] at hP1; exact hP1.elim
      | some z =>
        simp only [q] at hP1
        exact ⟨F1, d, z, R1.fh, peek_dat R1 hv e, q, postP_of R1 hP1⟩
  · have ⟨ns, e⟩ : ∃ ns, v = .scr ns := Classical.byContradiction fun z => hn fun ns e => z ⟨ns, e⟩
    subst e
    exact hP1.elim

/-- the pure rule of a builtin of one argument -/
theorem fn1_rel {p : Fn1} {Q : VK} (R : Rep X.K U F G H σ s) (hv : RepV X.K U F G H σ s u v) (hn : ∀ ns, v ≠ .scr ns) (hP : PostE X.K U W F G σ (fn1 p v s) Q) : rFn p [u] H Q := by
  rw [fn1_eq hn] at hP
  cases e : peek s v with
  | none => rw [e] at hP; exact hP.elim
  | some d =>
    rw [e] at hP
    cases q : evFn1 p d with
    | none => simp only [q] at hP; exact hP.elim
    | some z =>
      simp only [q] at hP
      exact ⟨F, u, d, z, rfl, R.fh, peek_dat R hv e, q, postP_of R hP⟩
theorem scr_or (v : Vl) : (∀ ns, v ≠ .scr ns) ∨ ∃ ns, v = .scr ns := by
  cases v with
  | scr ns => exact .inr ⟨ns, rfl⟩
  | _ => exact .inl (fun _ z => nomatch z)
/-- len of the script -/
def rScrLen (K : PySem.W.Frag) : List V → Hp → VK → Prop := fun xs H Q => ∃ (F : Hp) (p : Addr) (ns : List Int), xs = [.ref p] ∧ Same F H ∧ SqL K F p (ns.map V.int) ∧ Q (.int ns.length) H
theorem sf_scrLen : CallR X (.builtin "len") (rScrLen X.K) := by
  intro pins s σ H xs us Q I rx h
  obtain ⟨F, p, ns, rfl, hF, hs, q⟩ := h
  refine call_len pins s σ H _ us Q I rx ⟨_, (ns.map V.int).length, rfl, .inl ⟨_, same_sql hF hs, rfl⟩, ?_⟩
  rw [List.length_map]; exact q
def rScrIx (K : PySem.W.Frag) : R2 := fun x y H Q => ∃ (F : Hp) (p : Addr) (ns : List Int) (i n : Int), x = .ref p ∧ y = .int i ∧ Same F H ∧ SqL K F p (ns.map V.int) ∧ L2.atI ns i = some n ∧ Q (.int n) H
theorem atI_map {α β : Type} {f : α → β} {xs : List α} {i : Int} {x : α} (h : L2.atI xs i = some x) : L2.atI (xs.map f) i = some (f x) := by
  unfold L2.atI at h ⊢
  rw [List.length_map]
  cases q : ixN xs.length i with
  | none => rw [q] at h; cases h
  | some j =>
    rw [q] at h
    show (xs.map f)[j]? = _
    have h : xs[j]? = some x := h
    rw [List.getElem?_map, h]; rfl
theorem sp_scrIx : IxR X (rScrIx X.K) := by
  intro value slice pins s σ H x y v u Q I rx ry h hsub
  obtain ⟨F, p, ns, i, n, rfl, rfl, hF, hs, hi, q⟩ := h
  exact ix_list value slice pins s σ H _ _ v u Q I rx ry ⟨p, _, i, .int n, rfl, rfl, same_sql hF hs, atI_map hi, q⟩ hsub

theorem xe_ix (ha : PE X a (tE X.K U W Φ ca)) (hb : PE X b (tE X.K U W Φ cb)) (hs : PlainIx b) : PE X (.Subscript a b pos) (tE X.K U W Φ (.op2 .ix ca cb)) := by
  refine PE.imp (pe_ix (sp_ix.or sp_scrIx) ha hb hs) fun σ H Q ⟨F, G, s, R, hP⟩ => ?_
  refine seqE (wE X.K U W G σ Q) R hP fun v s1 u H1 F1 e1 R1 hv hP1 => ?_
  refine seqE2 (wE X.K U W G σ Q) R1 hv hP1 fun v2 s2 u2 H2 F2 e2 R2 hv' hv2 hP2 => ?_
  have hv2 := held_less R2 hv' hv2
  rcases scr_or v with hn | ⟨ns, rfl⟩
  · exact .inl (op2_rel (wE X.K U W G σ Q) (fun h => postP_of (W := W) R2 h) R2 hv' hv2 hn hP2)
  · replace hP2 : PostE X.K U W F2 G σ (op2 .ix (.scr ns) v2 s2) Q := hP2
    obtain ⟨p, rfl, hq⟩ := hv'
    cases v2 with
    | dat d =>
      cases d with
      | int i =>
        cases hv2
        have hP2 : PostE X.K U W F2 G σ (ofO s2 ((L2.atI ns i).map fun n => Vl.dat (.int n))) Q := hP2
        cases q : L2.atI ns i with
        | none => rw [q] at hP2; exact hP2.elim
        | some n =>
          rw [q] at hP2
          exact .inr ⟨F2, p, ns, i, n, rfl, rfl, R2.fh, hq, q, hP2 _ H2 F2 (Same.refl _) R2 (.int n)⟩
      | _ => exact hP2.elim
    | _ => exact hP2.elim
end
end Fc

namespace Fc
open PySem PySem.Spec PyProof.Rows L2
section
variable {K : PySem.W.Frag} {U : Au} {W : WX} {Φ : Nat → List Ar → Out} {F F' G G' H H' : Hp} {σ : L2.St} {s s' s1 : St} {u u2 : V} {v w : Vl} {d : D}

/-- one more thing is frozen -/
def fz (F H : Hp) (p : Addr) : Hp := fun a => if a = p then H p else F a
theorem fz_same {p : Addr} {o : HO} (hp : H p = some o) : fz F H p p = some o := by
  unfold fz; rw [if_pos rfl]; exact hp
theorem fz_ne {p a : Addr} (h : a ≠ p) : fz F H p a = F a := by unfold fz; rw [if_neg h]
theorem fz_sub {p : Addr} {o : HO} (hF : F p = none) : Same F (fz F H p) := fun a o e => by
  rw [fz_ne (fun z => by subst z; rw [hF] at e; cases e)]; exact e
theorem fz_rep {p : Addr} {o : HO} (R : Rep K U F G H σ s) (hp : H p = some o) (hF : F p = none) (hG : G p = none) (hf : Free σ s p) : Rep K U (fz F H p) G H σ s where
  len := R.len
  fh := fun a o' e => by
    by_cases q : a = p
    · subst q; rw [fz_same hp] at e; rw [hp]; exact e
    · rw [fz_ne q] at e; exact R.fh a o' e
  gh := R.gh
  fg := fun a o' e => by
    by_cases q : a = p
    · subst q; exact hG
    · rw [fz_ne q] at e; exact R.fg a o' e
  b := fun i b e => by
    refine RepB.mono (fz_sub (o := o) hF) (fun q hq ho hn => ?_) (fun _ _ _ h => h) (fun _ _ _ _ h => h) (R.b i b e)
    rw [fz_ne (fun z => by subst z; exact hf i b e ho hq)]; exact hn
  inj := R.inj
/-- a name's own list is frozen -/
theorem fz_slot {i : Nat} {xs : List D} (R : Rep K U F G H σ s) (e : s[i]? = some (.lst xs)) : ∃ p vs, σ[i]? = some (some (.ref p)) ∧ H p = some (.lst vs) ∧ F p = none ∧ G p = none ∧
    Dat (fz F H p) (.ref p) (.list xs) ∧ Rep K U (fz F H p) G H σ (s.set i (.dat (.list xs))) ∧ (∀ j b, j ≠ i → s[j]? = some b → owned b = true → σ[j]? ≠ some (some (.ref p))) := by
  obtain ⟨p, o, h1, h2, h3, h4⟩ := R.own e rfl
  have hb := R.b i _ e
  rw [h1] at hb
  obtain ⟨_, _, vs, h5, h6⟩ := hb
  have hd : Dat (fz F H p) (.ref p) (.list xs) := .lst (fz_same h5) (DatL.mono (fz_sub (o := o) h3) _ _ h6)
  have hj : ∀ j b, j ≠ i → s[j]? = some b → owned b = true → σ[j]? ≠ some (some (.ref p)) := fun j b hne hb ho z => hne (R.inj j i b _ p hb e ho rfl z h1)
  have li : i < s.length := (List.getElem?_eq_some_iff.mp e).1
  refine ⟨p, vs, h1, h5, h3, h4, hd, ⟨by rw [List.length_set]; exact R.len, fun a o' q => ?_, R.gh, fun a o' q => ?_, fun j b hb => ?_, fun j k bj bk q hbj hbk oj ok s1 s2 => ?_⟩, hj⟩
  · by_cases z : a = p
    · subst z; rw [fz_same h5] at q; rw [h5]; exact q
    · rw [fz_ne z] at q; exact R.fh a o' q
  · by_cases z : a = p
    · subst z; exact h4
    · rw [fz_ne z] at q; exact R.fg a o' q
  · by_cases z : j = i
    · subst z
      rw [List.getElem?_set_self li] at hb
      cases hb
      rw [h1]
      exact hd
    · rw [List.getElem?_set_ne (Ne.symm z)] at hb
      refine RepB.mono (fz_sub (o := o) h3) (fun q hq ho hn => ?_) (fun _ _ _ h => h) (fun _ _ _ _ h => h) (R.b j b hb)
      rw [fz_ne (fun y => by subst y; exact hj j b z hb ho hq)]; exact hn
  · have zj : j ≠ i := fun z => by subst z; rw [List.getElem?_set_self li] at hbj; cases hbj; cases oj
    have zk : k ≠ i := fun z => by subst z; rw [List.getElem?_set_self li] at hbk; cases hbk; cases ok
    rw [List.getElem?_set_ne (Ne.symm zj)] at hbj
    rw [List.getElem?_set_ne (Ne.symm zk)] at hbk
    exact R.inj j k bj bk q hbj hbk oj ok s1 s2

theorem frz_scr {x : Vl × St} : True := trivial
/-- the value is frozen; other values stay -/
theorem frz_ok (R : Rep K U F G H σ s) (hv : RepV K U F G H σ s u v) (e : frz s v = some (d, s1)) : ∃ F1, Same F F1 ∧ Rep K U F1 G H σ s1 ∧ Dat F1 u d ∧
    ∀ u2 w, RepV K U F G H σ s u2 w → (∀ p, u = .ref p → (∃ xs, v = .newL xs) ∨ (∃ xs, v = .newD xs) → u2 = .ref p → (∀ xs, w ≠ .newL xs) ∧ ∀ xs, w ≠ .newD xs) → RepV K U F1 G H σ s1 u2 w := by
  have keep : ∀ (p : Addr) (o : HO) (s1 : St), H p = some o → F p = none → (∀ q, Free σ s q → q ≠ p → Free σ s1 q) → ∀ u2 w, RepV K U F G H σ s u2 w → (∀ xs, u2 = .ref p → w ≠ .newL xs) → (∀ xs, u2 = .ref p → w ≠ .newD xs) → RepV K U (fz F H p) G H σ s1 u2 w := by
    intro p o s1 hp hF hfr u2 w hw h1 h2
    have sb : Same F (fz F H p) := fz_sub (o := o) hF
    cases w with
    | dat d' => exact Dat.mono sb d' u2 hw
    | newL xs =>
      obtain ⟨q, vs, rfl, k1, k2, k3, k4, k5⟩ := hw
      have ne : q ≠ p := fun z => h1 xs (by rw [z]) rfl
      exact ⟨q, vs, rfl, k1, by rw [fz_ne ne]; exact k2, k3, DatL.mono sb _ _ k4, hfr q k5 ne⟩
    | newD xs =>
      obtain ⟨q, o', rfl, k1, k2, k3, k4, k5⟩ := hw
      have ne : q ≠ p := fun z => h2 xs (by rw [z]) rfl
      exact ⟨q, o', rfl, k1, by rw [fz_ne ne]; exact k2, k3, k4, hfr q k5 ne⟩
    | slot i => exact hw
    | fn f => exact hw
    | exc c => exact hw
    | scr ns => obtain ⟨q, k1, k2⟩ := hw; exact ⟨q, k1, same_sql sb k2⟩
  cases v with
  | dat d' =>
    cases e
    exact ⟨F, Same.refl _, R, hv, fun _ _ h _ => h⟩
  | newL xs =>
    cases e
    obtain ⟨p, vs, rfl, h1, h2, h3, h4, h5⟩ := hv
    refine ⟨fz F H p, fz_sub (o := .lst vs) h2, fz_rep R h1 h2 h3 h5, .lst (fz_same h1) (DatL.mono (fz_sub (o := .lst vs) h2) _ _ h4), fun u2 w hw hne => ?_⟩
    exact keep p _ s h1 h2 (fun _ h _ => h) u2 w hw (fun ys z => (hne p rfl (.inl ⟨xs, rfl⟩) z).1 ys) fun ys z => (hne p rfl (.inl ⟨xs, rfl⟩) z).2 ys
  | newD kvs =>
    cases kvs with
    | cons _ _ => cases e
    | nil =>
      cases e
      obtain ⟨p, o, rfl, h1, h2, h3, ⟨rfl, _⟩, h5⟩ := hv
      refine ⟨fz F H p, fz_sub (o := .dK []) h2, fz_rep R h1 h2 h3 h5, .dic (fz_same h1), fun u2 w hw hne => ?_⟩
      exact keep p _ s h1 h2 (fun _ h _ => h) u2 w hw (fun ys z => (hne p rfl (.inr ⟨[], rfl⟩) z).1 ys) fun ys z => (hne p rfl (.inr ⟨[], rfl⟩) z).2 ys
  | slot i =>
    have hv : σ[i]? = some (some u) := hv
    unfold frz at e
    cases q : s[i]? with
    | none => simp [q] at e
    | some b =>
      cases b with
      | lst xs =>
        simp [q] at e
        obtain ⟨rfl, rfl⟩ := e
        obtain ⟨p, vs, h1, h2, h3, h4, h5, h6, h7⟩ := fz_slot R q
        rw [hv] at h1
        cases h1
        refine ⟨fz F H p, fz_sub (o := .lst vs) h3, h6, h5, fun u2 w hw _ => ?_⟩
        have fr : ∀ xs, u2 = .ref p → w ≠ .newL xs := fun ys z z2 => by
          subst z z2
          obtain ⟨q', vs', e1, k1, k2, k3, k4, k5⟩ := hw
          cases e1
          exact k5 i _ q rfl hv
        have fr2 : ∀ xs, u2 = .ref p → w ≠ .newD xs := fun ys z z2 => by
          subst z z2
          obtain ⟨q', vs', e1, k1, k2, k3, k4, k5⟩ := hw
          cases e1
          exact k5 i _ q rfl hv
        refine keep p _ _ h2 h3 (fun q' h _ j b hb ho => ?_) u2 w hw fr fr2
        have li : i < s.length := (List.getElem?_eq_some_iff.mp q).1
        by_cases z : j = i
        · subst z
          rw [List.getElem?_set_self li] at hb
          cases hb
          cases ho
        · rw [List.getElem?_set_ne (Ne.symm z)] at hb
          exact h j b hb ho
      | _ => simp [q] at e
  | fn f => cases e
  | exc c => cases e
  | scr ns => cases e

/-- what a call is given, in the heap -/
inductive ArV (K : PySem.W.Frag) (U : Au) (F : Hp) : V → Ar → Prop
  | dat {v : V} {d : D} : Dat F v d → ArV K U F v (.dat d)
  | fn (f : Nat) : ArV K U F (.ref (U.fa f)) (.fn f)
  | scr {p : Addr} {ns : List Int} : SqL K F p (ns.map V.int) → ArV K U F (.ref p) (.scr ns)
theorem ArV.mono {a : Ar} (h : ArV K U F u a) (e : Same F F') : ArV K U F' u a := by
  cases h with
  | dat h => exact .dat (Dat.mono e _ _ h)
  | fn f => exact .fn f
  | scr h => exact .scr (same_sql e h)
theorem tmps_mem {p : Addr} : ∀ {us : List V} {vs : List Vl} {u2 : V} {w : Vl}, (u2, w) ∈ us.zip vs → u2 = .ref p → (∃ xs, w = .newL xs) ∨ (∃ xs, w = .newD xs) → p ∈ tmps us vs
  | u :: us, v :: vs, u2, w, h, e, k => by
    rw [List.zip_cons_cons] at h
    rcases List.mem_cons.mp h with h | h
    · cases h
      subst e
      rcases k with ⟨xs, rfl⟩ | ⟨xs, rfl⟩ <;> exact List.mem_append_left _ List.mem_cons_self
    · exact List.mem_append_right _ (tmps_mem h e k)
theorem paired_imp {α β : Type} {P P' : α → β → Prop} : ∀ {xs : List α} {ys : List β}, Paired P xs ys → (∀ x y, (x, y) ∈ xs.zip ys → P x y → P' x y) → Paired P' xs ys
  | _, _, .nil, _ => .nil
  | x :: xs, y :: ys, .cons a b, k => .cons (k x y List.mem_cons_self a) (paired_imp b fun x' y' h => k x' y' (List.mem_cons_of_mem _ h))
theorem frz_tail {us : List V} {vs : List Vl} {F1 : Hp} (nd : (tmps (u :: us) (v :: vs)).Nodup) (p : Paired (RepV K U F G H σ s) us vs)
    (k : ∀ u2 w, RepV K U F G H σ s u2 w → (∀ p, u = .ref p → (∃ xs, v = .newL xs) ∨ (∃ xs, v = .newD xs) → u2 = .ref p → (∀ xs, w ≠ .newL xs) ∧ ∀ xs, w ≠ .newD xs) → RepV K U F1 G H σ s1 u2 w) : Paired (RepV K U F1 G H σ s1) us vs := by
  refine paired_imp p fun u2 w hm hw => k u2 w hw fun p hu hv hu2 => ?_
  subst hu
  have hp : ∀ l, tmps (.ref p :: us) (v :: vs) = p :: l → p ∉ l := fun l e => by
    rw [e] at nd
    exact (List.nodup_cons.mp nd).1
  have e : tmps (.ref p :: us) (v :: vs) = p :: tmps us vs := by
    rcases hv with ⟨xs, rfl⟩ | ⟨xs, rfl⟩ <;> rfl
  have np := hp _ e
  exact ⟨fun xs z => np (tmps_mem hm hu2 (.inl ⟨xs, z⟩)), fun xs z => np (tmps_mem hm hu2 (.inr ⟨xs, z⟩))⟩
theorem tmps_tail {us : List V} {vs : List Vl} (nd : (tmps (u :: us) (v :: vs)).Nodup) : (tmps us vs).Nodup := (List.nodup_append.mp nd).2.1
theorem frzs_ok : ∀ {us : List V} {vs : List Vl} {F : Hp} {s s1 : St} {ds : List D}, Rep K U F G H σ s → RepVs K U F G H σ s us vs → frzs s vs = some (ds, s1) → ∃ F1, Same F F1 ∧ Rep K U F1 G H σ s1 ∧ DatL F1 us ds
  | _, [], F, s, _, _, R, h, e => by
    cases e
    have := h.p
    cases this
    exact ⟨F, Same.refl _, R, .nil⟩
  | _, v :: vs, F, s, s1, ds, R, ⟨h, nd⟩, e => by
    cases h with
    | cons h1 h2 =>
      unfold frzs at e
      cases q : frz s v with
      | none => simp [q] at e
      | some x =>
        obtain ⟨d, s2⟩ := x
        simp only [q] at e
        cases q2 : frzs s2 vs with
        | none => simp [q2] at e
        | some y =>
          obtain ⟨ds', s3⟩ := y
          simp only [q2] at e
          cases e
          obtain ⟨F1, e1, R1, hd, k⟩ := frz_ok R h1 q
          obtain ⟨F2, e2, R2, hds⟩ := frzs_ok R1 ⟨frz_tail nd h2 k, tmps_tail nd⟩ q2
          exact ⟨F2, e1.trans e2, R2, .cons (Dat.mono e2 _ _ hd) hds⟩
theorem args_ok : ∀ {us : List V} {vs : List Vl} {F : Hp} {s s1 : St} {as : List Ar}, Rep K U F G H σ s → RepVs K U F G H σ s us vs → args s vs = some (as, s1) → ∃ F1, Same F F1 ∧ Rep K U F1 G H σ s1 ∧ Paired (ArV K U F1) us as
  | _, [], F, s, _, _, R, h, e => by
    cases e
    have := h.p
    cases this
    exact ⟨F, Same.refl _, R, .nil⟩
  | _, v :: vs, F, s, s1, as, R, ⟨h, nd⟩, e => by
    cases h with
    | cons h1 h2 =>
      rename_i u us
      have plain : ∀ (d : D) (s2 : St), frz s v = some (d, s2) → (∀ r s3, args s2 vs = some (r, s3) → as = .dat d :: r ∧ s1 = s3) → (args s2 vs ≠ none) → ∃ F1, Same F F1 ∧ Rep K U F1 G H σ s1 ∧ Paired (ArV K U F1) (u :: us) as := by
        intro d s2 q k1 k2
        cases q2 : args s2 vs with
        | none => exact absurd q2 k2
        | some y =>
          obtain ⟨r, s3⟩ := y
          obtain ⟨rfl, rfl⟩ := k1 r s3 q2
          obtain ⟨F1, e1, R1, hd, k⟩ := frz_ok R h1 q
          obtain ⟨F2, e2, R2, hds⟩ := args_ok R1 ⟨frz_tail nd h2 k, tmps_tail nd⟩ q2
          exact ⟨F2, e1.trans e2, R2, .cons (.dat (Dat.mono e2 _ _ hd)) hds⟩
      have same : ∀ (a : Ar), (∀ F', Same F F' → ArV K U F' u a) → (∀ r s3, args s vs = some (r, s3) → as = a :: r ∧ s1 = s3) → (args s vs ≠ none) → ∃ F1, Same F F1 ∧ Rep K U F1 G H σ s1 ∧ Paired (ArV K U F1) (u :: us) as := by
        intro a ha k1 k2
        cases q2 : args s vs with
        | none => exact absurd q2 k2
        | some y =>
          obtain ⟨r, s3⟩ := y
          obtain ⟨rfl, rfl⟩ := k1 r s3 q2
          obtain ⟨F2, e2, R2, hds⟩ := args_ok R ⟨h2, tmps_tail nd⟩ q2
          exact ⟨F2, e2, R2, .cons (ha F2 e2) hds⟩
      cases v with
      | fn f =>
        unfold args at e
        refine same (.fn f) (fun F' _ => by rw [show u = V.ref (U.fa f) from h1]; exact .fn f) (fun r s3 q => ?_) (fun q => ?_)
        · simp [q] at e; exact ⟨e.1.symm, e.2.symm⟩
        · simp [q] at e
      | scr ns =>
        obtain ⟨p, rfl, hq⟩ := h1
        unfold args at e
        refine same (.scr ns) (fun F' z => .scr (same_sql z hq)) (fun r s3 q => ?_) (fun q => ?_)
        · simp [q] at e; exact ⟨e.1.symm, e.2.symm⟩
        · simp [q] at e
      | exc c => unfold args at e; simp [frz] at e
      | _ =>
        unfold args at e
        split at e
        · rename_i d s2 q
          refine plain d s2 q (fun r s3 q2 => ?_) (fun q2 => ?_)
          · simp [q2] at e; exact ⟨e.1.symm, e.2.symm⟩
          · simp [q2] at e
        · cases e
end
end Fc

namespace Fc
open PySem PySem.Spec PyProof.Rows L2
theorem tru_or (v : Vl) (s : St) : tru v s = .bad ∨ ∃ c, tru v s = .ok c s ∧ peek s v = some (.bool c) := by
  unfold tru
  cases e : peek s v with
  | none => exact .inl rfl
  | some d =>
    cases d with
    | bool b => exact .inr ⟨b, rfl, rfl⟩
    | _ => exact .inl rfl
theorem intOf_or (v : Vl) (s : St) : intOf v s = .bad ∨ ∃ c, intOf v s = .ok c s ∧ peek s v = some (.int c) := by
  unfold intOf
  cases e : peek s v with
  | none => exact .inl rfl
  | some d =>
    cases d with
    | int b => exact .inr ⟨b, rfl, rfl⟩
    | _ => exact .inl rfl
section
variable {X : Cx} {U : Au} {W : WX} {Φ : Nat → List Ar → Out} {F F' G G' H H' : Hp} {σ : L2.St} {s s' : St} {u u2 : V} {v w : Vl} {a b c : Expr} {ca cb cc : E} {pos : Pos} {rest : List Expr}

/-- the truth of a value that has come -/
theorem tru_go {β : Type} {f : Bool → St → R β} (w' : Wish X.K U W G σ β) (R : Rep X.K U F G H σ s) (hv : RepV X.K U F G H σ s u v) (hP : w'.P F ((tru v s).bind f)) : ∃ c, u = .bl c ∧ w'.P F (f c s) := by
  rcases tru_or v s with e | ⟨c, e, hp⟩
  · rw [e] at hP; exact (w'.bad hP).elim
  · rw [e] at hP
    exact ⟨c, (peek_dat R hv hp).bool, hP⟩
theorem int_go {β : Type} {f : Int → St → R β} (w' : Wish X.K U W G σ β) (R : Rep X.K U F G H σ s) (hv : RepV X.K U F G H σ s u v) (hP : w'.P F ((intOf v s).bind f)) : ∃ c, u = .int c ∧ w'.P F (f c s) := by
  rcases intOf_or v s with e | ⟨c, e, hp⟩
  · rw [e] at hP; exact (w'.bad hP).elim
  · rw [e] at hP
    exact ⟨c, (peek_dat R hv hp).int, hP⟩

theorem xe_and (ha : PE X a (tE X.K U W Φ ca)) (hb : PE X (.BoolOp .And (b :: rest) pos) (tE X.K U W Φ cb)) : PE X (.BoolOp .And (a :: b :: rest) pos) (tE X.K U W Φ (.and_ ca cb)) := by
  refine PE.imp (pe_and ha hb) fun σ H Q ⟨F, G, s, R, hP⟩ => ?_
  refine seqE (wE X.K U W G σ Q) R hP fun v s1 u H1 F1 e1 R1 hv hP1 => ?_
  obtain ⟨c, rfl, hP2⟩ := tru_go (wE X.K U W G σ Q) R1 hv hP1
  refine ⟨c, rfl, ?_⟩
  cases c with
  | true => exact ⟨F1, G, s1, R1, hP2⟩
  | false => exact hP2 _ H1 F1 (Same.refl _) R1 (.bl false)
theorem xe_or (ha : PE X a (tE X.K U W Φ ca)) (hb : PE X (.BoolOp .Or (b :: rest) pos) (tE X.K U W Φ cb)) : PE X (.BoolOp .Or (a :: b :: rest) pos) (tE X.K U W Φ (.or_ ca cb)) := by
  refine PE.imp (pe_or ha hb) fun σ H Q ⟨F, G, s, R, hP⟩ => ?_
  refine seqE (wE X.K U W G σ Q) R hP fun v s1 u H1 F1 e1 R1 hv hP1 => ?_
  obtain ⟨c, rfl, hP2⟩ := tru_go (wE X.K U W G σ Q) R1 hv hP1
  refine ⟨c, rfl, ?_⟩
  cases c with
  | false => exact ⟨F1, G, s1, R1, hP2⟩
  | true => exact hP2 _ H1 F1 (Same.refl _) R1 (.bl true)
theorem xe_not (ha : PE X a (tE X.K U W Φ ca)) : PE X (.UnaryOp .Not a pos) (tE X.K U W Φ (.not_ ca)) := by
  refine PE.imp (pe_not ha) fun σ H Q ⟨F, G, s, R, hP⟩ => ?_
  refine seqE (wE X.K U W G σ Q) R hP fun v s1 u H1 F1 e1 R1 hv hP1 => ?_
  obtain ⟨c, rfl, hP2⟩ := tru_go (wE X.K U W G σ Q) R1 hv hP1
  exact ⟨c, rfl, hP2 _ H1 F1 (Same.refl _) R1 (.bl _)⟩
/-- tests -/
theorem xt_not (ha : PT X a (tT X.K U W Φ ca)) : PT X (.UnaryOp .Not a pos) (tT X.K U W Φ (.not_ ca)) := by
  refine PT.imp (pt_not ha) fun σ H Q ⟨F, G, s, R, hP⟩ => ⟨F, G, s, R, ?_⟩
  have e : (dE Φ (.not_ ca) s).bind tru = ((dE Φ ca s).bind tru).bind fun c s => .ok (!c) s := by
    show ((dE Φ ca s).bind fun v s1 => (tru v s1).bind fun c s2 => .ok (.dat (.bool (!c))) s2).bind tru = _
    rw [bind_bind, bind_bind]
    congr 1
    funext v s1
    rw [bind_bind]
    rfl
  rw [e] at hP
  cases q : (dE Φ ca s).bind tru with
  | ok c s1 => rw [q] at hP; exact fun H' F' a b => hP H' F' a b
  | exc c s1 => rw [q] at hP; exact hP
  | bad => rw [q] at hP; exact hP
theorem bindT_go {f : Bool → St → R Bool} {Q : Bool → Hp → Prop} {Q1 : Bool → Hp → Prop} (R : Rep X.K U F G H σ s) (hP : PostT X.K U W F G σ (((dE Φ ca s).bind tru).bind f) Q)
    (k : ∀ c s1 H1 F1, Same F F1 → Rep X.K U F1 G H1 σ s1 → PostT X.K U W F1 G σ (f c s1) Q → Q1 c H1) : tT X.K U W Φ ca σ H Q1 := by
  refine ⟨F, G, s, R, ?_⟩
  cases q : (dE Φ ca s).bind tru with
  | ok c s1 => rw [q] at hP; exact fun H' F' a b => k c s1 H' F' a b (PostT.mono hP a)
  | exc c s1 => rw [q] at hP; exact hP
  | bad => rw [q] at hP; exact hP
theorem xw_and (ha : PT X a (tT X.K U W Φ ca)) (hb : PW X (.BoolOp .And (b :: rest) pos) (tT X.K U W Φ cb)) : PW X (.BoolOp .And (a :: b :: rest) pos) (tT X.K U W Φ (.and_ ca cb)) := by
  refine PW.imp (pw_and ha hb) fun σ H Q ⟨F, G, s, R, hP⟩ => ?_
  have e : (dE Φ (.and_ ca cb) s).bind tru = ((dE Φ ca s).bind tru).bind fun c s => match c with
      | true => (dE Φ cb s).bind tru
      | false => .ok false s := by
    show ((dE Φ ca s).bind fun v s1 => (tru v s1).bind fun c s2 => match c with
      | true => dE Φ cb s2
      | false => .ok (.dat (.bool false)) s2).bind tru = _
    rw [bind_bind, bind_bind]
    congr 1
    funext v s1
    rw [bind_bind]
    congr 1
    funext c s2
    cases c <;> rfl
  rw [e] at hP
  refine bindT_go R hP fun c s1 H1 F1 e1 R1 hP1 => ?_
  cases c with
  | true => exact ⟨F1, G, s1, R1, hP1⟩
  | false => exact hP1 H1 F1 (Same.refl _) R1
theorem xw_or (ha : PT X a (tT X.K U W Φ ca)) (hb : PW X (.BoolOp .Or (b :: rest) pos) (tT X.K U W Φ cb)) : PW X (.BoolOp .Or (a :: b :: rest) pos) (tT X.K U W Φ (.or_ ca cb)) := by
  refine PW.imp (pw_or ha hb) fun σ H Q ⟨F, G, s, R, hP⟩ => ?_
  have e : (dE Φ (.or_ ca cb) s).bind tru = ((dE Φ ca s).bind tru).bind fun c s => match c with
      | true => .ok true s
      | false => (dE Φ cb s).bind tru := by
    show ((dE Φ ca s).bind fun v s1 => (tru v s1).bind fun c s2 => match c with
      | true => .ok (.dat (.bool true)) s2
      | false => dE Φ cb s2).bind tru = _
    rw [bind_bind, bind_bind]
    congr 1
    funext v s1
    rw [bind_bind]
    congr 1
    funext c s2
    cases c <;> rfl
  rw [e] at hP
  refine bindT_go R hP fun c s1 H1 F1 e1 R1 hP1 => ?_
  cases c with
  | false => exact ⟨F1, G, s1, R1, hP1⟩
  | true => exact hP1 H1 F1 (Same.refl _) R1
theorem xe_ite (hc : PT X c (tT X.K U W Φ cc)) (ha : PE X a (tE X.K U W Φ ca)) (hb : PE X b (tE X.K U W Φ cb)) : PE X (.IfExp c a b pos) (tE X.K U W Φ (.ite_ cc ca cb)) := by
  refine PE.imp (pe_ifExp hc ha hb) fun σ H Q ⟨F, G, s, R, hP⟩ => ⟨F, G, s, R, ?_⟩
  have e : dE Φ (.ite_ cc ca cb) s = ((dE Φ cc s).bind tru).bind fun c s => match c with
      | true => dE Φ ca s
      | false => dE Φ cb s := by
    rw [bind_bind]
    rfl
  rw [e] at hP
  cases q : (dE Φ cc s).bind tru with
  | ok k s1 =>
    rw [q] at hP
    intro H' F' a b
    cases k with
    | true => exact ⟨F', G, s1, b, PostE.mono hP a⟩
    | false => exact ⟨F', G, s1, b, PostE.mono hP a⟩
  | exc k s1 => rw [q] at hP; exact hP
  | bad => rw [q] at hP; exact hP

/-- a chain of two comparisons: what the first one's answer leads to -/
theorem chain_go {p q : Op2} {op op' : CmpOp} (hp : p ≠ .ix) (hq : q ≠ .ix) {Q : VK} {w' : Wish X.K U W G σ Vl} (hok : ∀ {F : Hp} {z : Vl} {s : St} {H : Hp}, Rep X.K U F G H σ s → w'.P F (.ok z s) → PostP F H z Q)
    (R : Rep X.K U F G H σ s) (hP : w'.P F (dE Φ (.chain p q ca cb cc) s)) : tChain (rOp p) (rOp q) (tE X.K U W Φ ca) (tE X.K U W Φ cb) (tE X.K U W Φ cc) σ H Q := by
  refine seqE w' R hP fun v s1 u H1 F1 e1 R1 hv hP1 => ?_
  refine seqE2 w' R1 hv hP1 fun v2 s2 u2 H2 F2 e2 R2 hv' hv2 hP2 => ?_
  have hv2 := held_less R2 hv' hv2
  let w2 : Wish X.K U W G σ Vl := ⟨fun F m => w'.P F (m.bind fun z s3 => (tru z s3).bind fun k s4 => match k with
    | true => (dE Φ cc s4).bind fun u s5 => op2 q v2 u s5
    | false => .ok (.dat (.bool false)) s4), fun h e => w'.mono h e, fun h => w'.exc h, fun h => w'.bad h⟩
  refine op2_go hp w2 (fun {z} hz => ?_) R2 hv' hv2 hP2
  intro uz H3 F3 g n
  have R3 := R2.grow g
  have hz3 := n.rep R2 g
  obtain ⟨k, rfl, hP3⟩ := tru_go (f := fun k s4 => match k with
    | true => (dE Φ cc s4).bind fun u s5 => op2 q v2 u s5
    | false => .ok (.dat (.bool false)) s4) w' R3 hz3 (w'.mono hz g.f)
  refine ⟨k, rfl, ?_⟩
  cases k with
  | false => exact (hok R3 hP3).at R3.fh (.bl false)
  | true =>
    refine seqE2 w' R3 (hv2.grow g) hP3 fun v4 s4 u4 H4 F4 e4 R4 hv2' hv4 hP4 => ?_
    exact op2_go hq w' (fun h => hok R4 h) R4 hv2' (held_less R4 hv2' hv4) hP4
theorem xe_chain {p q : Op2} {op op' : CmpOp} (hp : p ≠ .ix) (hq : q ≠ .ix) (ho : OpR X (compareOp op) (rOp p)) (ho' : OpR X (compareOp op') (rOp q)) (ha : PE X a (tE X.K U W Φ ca)) (hb : PE X b (tE X.K U W Φ cb)) (hc : PE X c (tE X.K U W Φ cc)) (hm : lastMarks [op, op'] [b, c] = false) :
    PE X (.Compare a [op, op'] [b, c] pos) (tE X.K U W Φ (.chain p q ca cb cc)) :=
  PE.imp (pe_chain ho ho' ha hb hc hm) fun σ H Q ⟨F, G, s, R, hP⟩ => chain_go (op := op) (op' := op') hp hq (w' := wE X.K U W G σ Q) (fun R h => postP_of (W := W) R h) R hP
theorem xt_chain {p q : Op2} {op op' : CmpOp} (hp : p ≠ .ix) (hq : q ≠ .ix) (ho : OpR X (compareOp op) (rOp p)) (ho' : OpR X (compareOp op') (rOp q)) (ha : PE X a (tE X.K U W Φ ca)) (hb : PE X b (tE X.K U W Φ cb)) (hc : PE X c (tE X.K U W Φ cc)) (hm : lastMarks [op, op'] [b, c] = false) :
    PT X (.Compare a [op, op'] [b, c] pos) (tT X.K U W Φ (.chain p q ca cb cc)) :=
  PT.imp (pt_chain ho ho' ha hb hc hm) fun σ H Q ⟨F, G, s, R, hP⟩ => chain_go (op := op) (op' := op') hp hq (w' := wTr X.K U W G σ Q) (fun R h => postP_tru (W := W) R h) R hP

/-- is None -/
theorem isN_rel {p : Fn1} {Q : VK} (w' : Wish X.K U W G σ Vl) (hok : ∀ {z : Vl}, w'.P F (.ok z s) → PostP F H z Q) (R : Rep X.K U F G H σ s) (hv : RepV X.K U F G H σ s u v) (hP : w'.P F (fn1 p v s)) (hp : p = .isN ∨ p = .notN) : rIsN p u .non H Q := by
  rcases scr_or v with hn | ⟨ns, rfl⟩
  · rw [fn1_eq hn] at hP
    cases e : peek s v with
    | none => rw [e] at hP; exact (w'.bad hP).elim
    | some d =>
      rw [e] at hP
      cases q : evFn1 p d with
      | none => simp only [q] at hP; exact (w'.bad hP).elim
      | some z =>
        simp only [q] at hP
        exact ⟨F, d, z, rfl, R.fh, peek_dat R hv e, q, hok hP⟩
  · rcases hp with rfl | rfl <;> exact (w'.bad hP).elim
theorem xe_isN {j : Nat} {p' : Pos} (ha : PE X a (tE X.K U W Φ ca)) : PE X (.Compare a [.Is] [.Constant .none j p'] pos) (tE X.K U W Φ (.fn1 .isN ca)) := by
  refine PE.imp (pe_cmpR so_isN ha pe_non (nomark _)) fun σ H Q ⟨F, G, s, R, hP⟩ => ?_
  refine seqE (wE X.K U W G σ Q) R hP fun v s1 u H1 F1 e1 R1 hv hP1 => ?_
  exact isN_rel (wE X.K U W G σ Q) (fun h => postP_of (W := W) R1 h) R1 hv hP1 (.inl rfl)
theorem xe_notN {j : Nat} {p' : Pos} (ha : PE X a (tE X.K U W Φ ca)) : PE X (.Compare a [.IsNot] [.Constant .none j p'] pos) (tE X.K U W Φ (.fn1 .notN ca)) := by
  refine PE.imp (pe_cmpR so_notN ha pe_non (nomark _)) fun σ H Q ⟨F, G, s, R, hP⟩ => ?_
  refine seqE (wE X.K U W G σ Q) R hP fun v s1 u H1 F1 e1 R1 hv hP1 => ?_
  exact isN_rel (wE X.K U W G σ Q) (fun h => postP_of (W := W) R1 h) R1 hv hP1 (.inr rfl)
theorem xt_isN {j : Nat} {p' : Pos} (ha : PE X a (tE X.K U W Φ ca)) : PT X (.Compare a [.Is] [.Constant .none j p'] pos) (tT X.K U W Φ (.fn1 .isN ca)) := by
  refine PT.imp (pt_cmpR so_isN ha pe_non (nomark _)) fun σ H Q ⟨F, G, s, R, hP⟩ => ?_
  refine seqE (wTr X.K U W G σ Q) R hP fun v s1 u H1 F1 e1 R1 hv hP1 => ?_
  exact isN_rel (wTr X.K U W G σ Q) (fun h => postP_tru (W := W) R1 h) R1 hv hP1 (.inl rfl)
theorem xt_notN {j : Nat} {p' : Pos} (ha : PE X a (tE X.K U W Φ ca)) : PT X (.Compare a [.IsNot] [.Constant .none j p'] pos) (tT X.K U W Φ (.fn1 .notN ca)) := by
  refine PT.imp (pt_cmpR so_notN ha pe_non (nomark _)) fun σ H Q ⟨F, G, s, R, hP⟩ => ?_
  refine seqE (wTr X.K U W G σ Q) R hP fun v s1 u H1 F1 e1 R1 hv hP1 => ?_
  exact isN_rel (wTr X.K U W G σ Q) (fun h => postP_tru (W := W) R1 h) R1 hv hP1 (.inr rfl)

/-! ### argument lists, displays -/
theorem xa_nil : PA X [] (tA X.K U W Φ .nil) := PA.imp pa_nil fun σ H Q ⟨F, G, s, R, hP⟩ => hP [] H F (Same.refl _) R ⟨.nil, List.nodup_nil⟩
def starless : Expr → Bool
  | .Starred .. => false
  | _ => true
theorem starless_eq {e : Expr} {es : List Expr} {env : Env} (h : starless e = true) : starEach (e :: es) env = (false, eval e env) :: starEach es env := by
  cases e <;> first | rfl | cases h
theorem tmps_ne {p : Addr} {us : List V} {vs : List Vl} {K : PySem.W.Frag} {G1 : Hp} (h : Paired (RepV K U F G1 H σ s) us vs) {o : HO} (hp : G1 p = some o) : p ∉ tmps us vs := by
  induction h with
  | nil => intro z; cases z
  | @cons u v us vs h1 _ ih =>
    intro z
    rcases List.mem_append.mp z with z | z
    · cases v with
      | newL xs =>
        obtain ⟨q, ws, rfl, k1, k2, k3, _⟩ := h1
        have z : p ∈ [q] := z
        rw [List.mem_singleton.mp z, k3] at hp; cases hp
      | newD xs =>
        obtain ⟨q, ws, rfl, k1, k2, k3, _⟩ := h1
        have z : p ∈ [q] := z
        rw [List.mem_singleton.mp z, k3] at hp; cases hp
      | _ => cases z
    · exact ih z
theorem seqA2 {β : Type} {K : PySem.W.Frag} (w' : Wish K U W G σ β) {c : Es} {f : List Vl → St → R β} {Q1 : List V → Hp → Prop} (R : Rep K U F G H σ s) (hv : RepV K U F G H σ s u v) (hP : w'.P F ((dEs Φ c s).bind f))
    (k : ∀ vs s1 us H1 F1, Same F F1 → Rep K U F1 G H1 σ s1 → RepVs K U F1 G H1 σ s1 (u :: us) (v :: vs) → w'.P F1 (f vs s1) → Q1 us H1) : tA K U W Φ c σ H Q1 := by
  refine ⟨F, held H u v G, s, R.held hv, ?_⟩
  have hs := held_same R hv
  cases e : dEs Φ c s with
  | ok vs s1 =>
    rw [e] at hP
    intro us H1 F1 a b c
    have hk := hv.kept a b
    refine k vs s1 us H1 F1 a (b.less hs) ⟨.cons hk (paired_imp c.p fun _ _ _ h => h.less hs), ?_⟩ (w'.mono hP a)
    have one : ∀ (p : Addr) (o : HO), held H u v G p = some o → (p :: tmps us vs).Nodup := fun p o hp => List.nodup_cons.mpr ⟨tmps_ne c.p hp, c.nd⟩
    cases v with
    | newL xs =>
      obtain ⟨p, ws, rfl, h1, h2, h3, h4, h5⟩ := hv
      exact one p (.lst ws) (by show (if p = p then H p else G p) = _; rw [if_pos rfl]; exact h1)
    | newD xs =>
      obtain ⟨p, o, rfl, h1, h2, h3, h4, h5⟩ := hv
      exact one p o (by show (if p = p then H p else G p) = _; rw [if_pos rfl]; exact h1)
    | _ => exact c.nd
  | exc c s1 =>
    rw [e] at hP
    exact fun H' F' a b => w'.exc hP H' F' a (b.less hs)
  | bad =>
    rw [e] at hP
    exact w'.bad hP
theorem xa_cons {es : List Expr} {ces : Es} (ha : PE X a (tE X.K U W Φ ca)) (hr : PA X es (tA X.K U W Φ ces)) (hs : starless a = true) : PA X (a :: es) (tA X.K U W Φ (.cons ca ces)) := by
  refine PA.imp (pa_cons ha hr (starless_eq hs)) fun σ H Q ⟨F, G, s, R, hP⟩ => ?_
  refine seqE (wA X.K U W G σ Q) R hP fun v s1 u H1 F1 e1 R1 hv hP1 => ?_
  exact seqA2 (wA X.K U W G σ Q) R1 hv hP1 fun vs s2 us H2 F2 e2 R2 hvs hP2 => hP2 (u :: us) H2 F2 (Same.refl _) R2 hvs
/-- the arguments, then what hangs on them -/
theorem seqA {β : Type} {K : PySem.W.Frag} (w' : Wish K U W G σ β) {c : Es} {f : List Vl → St → R β} {Q1 : List V → Hp → Prop} (R : Rep K U F G H σ s) (hP : w'.P F ((dEs Φ c s).bind f))
    (k : ∀ vs s1 us H1 F1, Same F F1 → Rep K U F1 G H1 σ s1 → RepVs K U F1 G H1 σ s1 us vs → w'.P F1 (f vs s1) → Q1 us H1) : tA K U W Φ c σ H Q1 := by
  refine ⟨F, G, s, R, ?_⟩
  cases e : dEs Φ c s with
  | ok vs s1 =>
    rw [e] at hP
    exact fun us H1 F1 a b c => k vs s1 us H1 F1 a b c (w'.mono hP a)
  | exc c s1 =>
    rw [e] at hP
    exact w'.exc hP
  | bad =>
    rw [e] at hP
    exact w'.bad hP
theorem disp_go {z : List D → Vl} {Q : VK} {vs : List Vl} {us : List V} {K : PySem.W.Frag} (R : Rep K U F G H σ s) (hvs : RepVs K U F G H σ s us vs) (hP : PostE K U W F G σ (match frzs s vs with
      | some (ds, s2) => if lenOk ds.length then (.ok (z ds) s2 : Fc.R Vl) else .bad
      | none => .bad) Q) : us.length ≤ sizeLine ∧ ∃ F1 ds s2, Rep K U F1 G H σ s2 ∧ DatL F1 us ds ∧ PostE K U W F1 G σ (.ok (z ds) s2) Q := by
  cases e : frzs s vs with
  | none => rw [e] at hP; exact hP.elim
  | some x =>
    obtain ⟨ds, s2⟩ := x
    rw [e] at hP
    obtain ⟨F1, e1, R1, hd⟩ := frzs_ok R hvs e
    by_cases hl : lenOk ds.length = true
    · simp only [hl, if_true] at hP
      exact ⟨by rw [hd.length]; exact lenOk_of hl, F1, ds, s2, R1, hd, PostE.mono hP e1⟩
    · simp only [hl, if_false] at hP
      exact hP.elim
theorem xe_lst {es : List Expr} {ces : Es} (h : PA X es (tA X.K U W Φ ces)) : PE X (.List es pos) (tE X.K U W Φ (.lst ces)) := by
  refine PE.imp (pe_lst h) fun σ H Q ⟨F, G, s, R, hP⟩ => ?_
  refine seqA (wE X.K U W G σ Q) R hP fun vs s1 us H1 F1 e1 R1 hvs hP1 => ?_
  obtain ⟨hl, F2, ds, s2, R2, hd, hP2⟩ := disp_go (z := .newL) R1 hvs hP1
  exact ⟨hl, fun p hp => (postP_of (W := W) R2 hP2).newL R2.fh hp hd⟩
theorem xe_tup {es : List Expr} {ces : Es} {k : Nat} (h : PA X es (tA X.K U W Φ ces)) : PE X (.Tuple es k pos) (tE X.K U W Φ (.tup ces)) := by
  refine PE.imp (pe_tup h) fun σ H Q ⟨F, G, s, R, hP⟩ => ?_
  refine seqA (wE X.K U W G σ Q) R hP fun vs s1 us H1 F1 e1 R1 hvs hP1 => ?_
  obtain ⟨hl, F2, ds, s2, R2, hd, hP2⟩ := disp_go (z := fun ds => .dat (.tuple ds)) R1 hvs hP1
  exact ⟨hl, fun p hp => (postP_of (W := W) R2 hP2).tup R2.fh hp hd⟩
end
end Fc

namespace Fc
open PySem PySem.Spec PyProof.Rows L2

def tyS : Ty → String
  | .int => "int"
  | .bool => "bool"
  | .str => "str"
  | .list => "list"
  | .tuple => "tuple"
  | .dict => "dict"
  | .cls _ => ""
  | .valueError => "ValueError"
def tyD : D → String
  | .none => "NoneType"
  | .bool _ => "bool"
  | .int _ => "int"
  | .str _ => "str"
  | .list _ => "list"
  | .tuple _ => "tuple"
  | .dict _ => "dict"
theorem kit_data (d : D) (t : Ty) (h : plainTy t = true) : kitB (tyD d) (tyS t) = some (isTy d t) := by
  have k : ∀ a ∈ ["NoneType", "bool", "int", "str", "list", "tuple", "dict"], ∀ b ∈ ["int", "bool", "str", "list", "tuple", "dict"], kitB a b = some ((a == b) || (a == "bool" && b == "int")) := by decide +kernel
  cases d <;> cases t <;> first | (cases h; done) | exact k _ (by simp [tyD]) _ (by simp [tyS])

/-- what is known of the exception class number c -/
structure EcOk (K : PySem.W.Frag) (ea : Nat → Addr) (n : Nat) (c : Nat) : Prop where
  cl : (PySem.W.clsIn K (ea c)).isSome = true
  ga : PySem.W.findIn K (.ref (ea c)) "__getattribute__" = some (some (.builtin "BaseException.__getattribute__"))
  gt : ∃ gt, PySem.W.findIn K (.ref (ea c)) "__getattr__" = some gt
  sub : PySem.W.subIn K (.ref (ea c)) (.type "BaseException") = some true
  ca : PySem.W.findIn K (.ref (ea c)) "__class__" = some (some (.builtin "object.__class__"))
  sp : PySem.W.specialIn K (.builtin "object.__class__") "__get__" = some (some (.builtin "getset_descriptor.__get__"))
  tk : PySem.W.takesIn K (.builtin "object.__class__") = some true
  mo : PySem.W.mroIn K (ea c) (.type "object") = some true
  kit : ∀ k, k < n → PySem.W.kitOne K (.ref (ea c)) (.ref (ea k)) = some (k == c || k == 0)
  ve : PySem.W.kitOne K (.ref (ea c)) (.type "ValueError") = some true

section
variable {X : Cx} {U : Au} {W : WX} {Φ : Nat → List Ar → Out} {F F' G G' H H' : Hp} {σ : L2.St} {s s' : St} {u u2 : V} {v w : Vl} {a b c : Expr} {ca cb cc : E} {pos p : Pos} {x : Str} {id T : String}

/-- a builtin of one argument -/
theorem xe_call1 {q : Fn1} (hc : CallR X (.builtin id) (rFn q)) (hq : q ≠ .len) (hg : Gl X x) (hm : X.mg x = none) (hv : bootBuiltins x = some (.builtin id)) (hn : x ≠ "__name__") (hdb : (x == ("__debug__" : Str)) = false) (ha : PE X a (tE X.K U W Φ ca)) (hs : starless a = true) :
    PE X (.Call (.Name x p) [a] [] pos) (tE X.K U W Φ (.fn1 q ca)) := by
  refine PE.imp (pe_callB hc hg hm hv (pa_cons ha pa_nil (starless_eq hs)) hn hdb (starless_eq hs)) fun σ H Q ⟨F, G, s, R, hP⟩ => ?_
  refine seqE (wE X.K U W G σ Q) R hP fun v s1 u H1 F1 e1 R1 hv hP1 => ?_
  rcases scr_or v with hn | ⟨ns, rfl⟩
  · exact fn1_rel R1 hv hn hP1
  · have e : fn1 q (.scr ns) s1 = .bad := by cases q <;> first | rfl | exact absurd rfl hq
    rw [e] at hP1
    exact hP1.elim
theorem xe_callT1 {q : Fn1} (hc : CallR X (.type T) (rFn q)) (hq : q ≠ .len) (hg : Gl X x) (hm : X.mg x = none) (hv : bootBuiltins x = some (.type T)) (hn : x ≠ "__name__") (hdb : (x == ("__debug__" : Str)) = false) (ha : PE X a (tE X.K U W Φ ca)) (hs : starless a = true) :
    PE X (.Call (.Name x p) [a] [] pos) (tE X.K U W Φ (.fn1 q ca)) := by
  refine PE.imp (pe_callTy hc hg hm hv (pa_cons ha pa_nil (starless_eq hs)) hn hdb (starless_eq hs)) fun σ H Q ⟨F, G, s, R, hP⟩ => ?_
  refine seqE (wE X.K U W G σ Q) R hP fun v s1 u H1 F1 e1 R1 hv hP1 => ?_
  rcases scr_or v with hn | ⟨ns, rfl⟩
  · exact fn1_rel R1 hv hn hP1
  · have e : fn1 q (.scr ns) s1 = .bad := by cases q <;> first | rfl | exact absurd rfl hq
    rw [e] at hP1
    exact hP1.elim
theorem xe_len (hg : Gl X "len") (hm : X.mg "len" = none) (ha : PE X a (tE X.K U W Φ ca)) (hs : starless a = true) : PE X (.Call (.Name "len" p) [a] [] pos) (tE X.K U W Φ (.fn1 .len ca)) := by
  refine PE.imp (pe_callB (sf_len.or sf_scrLen) hg hm PySem.boot_len (pa_cons ha pa_nil (starless_eq hs)) (by decide) (by decide) (starless_eq hs)) fun σ H Q ⟨F, G, s, R, hP⟩ => ?_
  refine seqE (wE X.K U W G σ Q) R hP fun v s1 u H1 F1 e1 R1 hv hP1 => ?_
  rcases scr_or v with hn | ⟨ns, rfl⟩
  · exact .inl (fn1_rel R1 hv hn hP1)
  · obtain ⟨q, rfl, hq⟩ := hv
    exact .inr ⟨F1, q, ns, rfl, R1.fh, hq, hP1 _ H1 F1 (Same.refl _) R1 (.int _)⟩
theorem backTo_one {pos : Pos} {env : Env} {b : Expr} (h : starless b = true) : (backTo pos (starEach [b] env)).any (·.1) = false := by
  rw [starless_eq h]; rfl
theorem fn2_go {q : Fn2} {Q : VK} {r : V → V → Hp → VK → Prop} (R : Rep X.K U F G H σ s) (hv : RepV X.K U F G H σ s u v) (hv2 : RepV X.K U F G H σ s u2 w) (hP : PostE X.K U W F G σ (fn2 q v w s) Q) :
    ∃ d e z, DatT F H u d ∧ DatT F H u2 e ∧ evFn2 q d e = some z ∧ PostP F H z Q := by
  unfold fn2 at hP
  cases e1 : peek s v with
  | none => rw [e1] at hP; exact hP.elim
  | some d =>
    cases e2 : peek s w with
    | none => rw [e1, e2] at hP; exact hP.elim
    | some e =>
      rw [e1, e2] at hP
      cases qq : evFn2 q d e with
      | none => simp only [qq] at hP; exact hP.elim
      | some z =>
        simp only [qq] at hP
        exact ⟨d, e, z, peek_dat R hv e1, peek_dat R hv2 e2, qq, postP_of (W := W) R hP⟩
theorem xe_call2 {q : Fn2} (hc : CallR X (.builtin id) (rFn2 q)) (hg : Gl X x) (hm : X.mg x = none) (hv : bootBuiltins x = some (.builtin id)) (hn : x ≠ "__name__") (hdb : (x == ("__debug__" : Str)) = false) (ha : PE X a (tE X.K U W Φ ca)) (hb : PE X b (tE X.K U W Φ cb)) (hs : starless a = true) (hs2 : starless b = true) :
    PE X (.Call (.Name x p) [a, b] [] pos) (tE X.K U W Φ (.fn2 q ca cb)) := by
  refine PE.imp (pe_callB hc hg hm hv (pa_cons ha (pa_cons hb pa_nil (starless_eq hs2)) (starless_eq hs)) hn hdb (starless_eq hs) (backTo_one hs2)) fun σ H Q ⟨F, G, s, R, hP⟩ => ?_
  refine seqE (wE X.K U W G σ Q) R hP fun v s1 u H1 F1 e1 R1 hv hP1 => ?_
  refine seqE2 (wE X.K U W G σ Q) R1 hv hP1 fun v2 s2 u2 H2 F2 e2 R2 hv' hv2 hP2 => ?_
  obtain ⟨d, e, z, h1, h2, h3, h4⟩ := fn2_go (r := fun _ _ _ _ => True) R2 hv' (held_less R2 hv' hv2) hP2
  exact ⟨F2, u, u2, d, e, z, rfl, R2.fh, h1, h2, h3, h4⟩

def attrPlain : Expr → Bool
  | .Call (.Name ..) [] [] _ => false
  | _ => true
theorem attrPlain_eq {o : Expr} {m : Str} {env : Env} (h : attrPlain o = true) (t : Sem Value) : attributeBase o m env t = t := by
  unfold attributeBase
  split
  · cases h
  · rfl
/-- xs.count(y), xs.index(y): what is asked ahead of the argument is asked behind it, too -/
theorem few_one {cpos : Pos} {env : Env} {b : Expr} (h : starless b = true) : ((backTo cpos (starEach [b] env)).all (fun x => !x.1) && (backToKw cpos (keywordEach [] env)).all (fun x => x.1.isSome)
      && decide ([b].length + ([] : List Keyword).length + (if ([] : List Keyword).isEmpty then 0 else 1) < 30)) = true := by
  rw [starless_eq h]; rfl
theorem xe_mth {m : Str} {q : Fn2} {apos : Pos} (slot : Slot "list" m id) (hty : typeOf (.builtin id) = pure (.type "method_descriptor")) (hm : MtR X id (rMt q))
    (ha : PE X a (tE X.K U W Φ ca)) (hb : PE X b (tE X.K U W Φ cb)) (hs2 : starless b = true) (hat : attrPlain a = true) (hline : (apos.endLine == pos.line) = true) :
    PE X (.Call (.Attribute a m apos) [b] [] pos) (tE X.K U W Φ (.mth q ca cb)) := by
  refine PE.imp (pe_bm PySem.F.plainAttrs_list slot hty hm ha (pa_cons hb pa_nil (starless_eq hs2)) (attrPlain_eq hat _) (few_one hs2) hline (starless_eq hs2)) fun σ H Q ⟨F, G, s, R, hP⟩ => ?_
  refine seqE (wE X.K U W G σ Q) R hP fun v s1 u H1 F1 e1 R1 hv hP1 => ?_
  replace hP1 : PostE X.K U W F1 G σ (match peek s1 v with
    | some (.list _) => (dE Φ cb s1).bind fun w s2 => fn2 q v w s2
    | _ => .bad) Q := hP1
  cases e : peek s1 v with
  | none => rw [e] at hP1; exact hP1.elim
  | some d =>
    rw [e] at hP1
    cases d with
    | list xs =>
      obtain ⟨q', vs, rfl, h1, h2⟩ := (peek_dat R1 hv e).list R1.fh
      refine ⟨.inl ⟨rfl, vs, SqL.of h1⟩, ?_⟩
      refine seqE2 (wE X.K U W G σ Q) R1 hv hP1 fun v2 s2 u2 H2 F2 e2 R2 hv' hv2 hP2 => ?_
      obtain ⟨d, e, z, h1, h2, h3, h4⟩ := fn2_go (r := fun _ _ _ _ => True) R2 hv' (held_less R2 hv' hv2) hP2
      exact ⟨F2, u2, d, e, z, rfl, R2.fh, h1, h2, h3, h4⟩
    | _ => exact hP1.elim

/-! ### {} -/
theorem xe_emp : PE X (.Dict [] [] pos) (tE X.K U W Φ .emp) := by
  refine PE.imp pe_dnewK fun σ H Q ⟨F, G, s, R, hP⟩ => ?_
  intro q hq
  exact (postP_of (W := W) R hP).newD R.fh hq

/-! ### slices -/
theorem cut_go {lo hi : Option Int} {Q : VK} (R : Rep X.K U F G H σ s) (hv : RepV X.K U F G H σ s u v) (hP : PostE X.K U W F G σ (cutV v lo hi s) Q) : rCut u lo hi H Q := by
  unfold cutV at hP
  cases e : peek s v with
  | none => rw [e] at hP; exact hP.elim
  | some d =>
    rw [e] at hP
    have hd := peek_dat R hv e
    cases d with
    | list xs => exact ⟨F, _, _, R.fh, hd, rfl, postP_of (W := W) R hP⟩
    | tuple xs => exact ⟨F, _, _, R.fh, hd, rfl, postP_of (W := W) R hP⟩
    | _ => exact hP.elim
theorem xe_slcL {p2 : Pos} (ha : PE X a (tE X.K U W Φ ca)) (hb : PE X b (tE X.K U W Φ cb)) : PE X (.Subscript a (.Slice (some b) none none p2) pos) (tE X.K U W Φ (.slcL ca cb)) := by
  refine PE.imp (pe_slice ss_cut ha (po_some hb) po_none) fun σ H Q ⟨F, G, s, R, hP⟩ => ?_
  refine seqE (wE X.K U W G σ Q) R hP fun v s1 u H1 F1 e1 R1 hv hP1 => ?_
  refine seqE2 (wE X.K U W G σ Q) R1 hv hP1 fun v2 s2 u2 H2 F2 e2 R2 hv' hv2 hP2 => ?_
  obtain ⟨i, rfl, hP3⟩ := int_go (wE X.K U W G σ Q) R2 (held_less R2 hv' hv2) hP2
  exact ⟨i, rfl, cut_go R2 hv' hP3⟩
theorem xe_slcU {p2 : Pos} (ha : PE X a (tE X.K U W Φ ca)) (hb : PE X b (tE X.K U W Φ cb)) : PE X (.Subscript a (.Slice none (some b) none p2) pos) (tE X.K U W Φ (.slcU ca cb)) := by
  refine PE.imp (pe_slice ss_cut ha po_none (po_some hb)) fun σ H Q ⟨F, G, s, R, hP⟩ => ?_
  refine seqE (wE X.K U W G σ Q) R hP fun v s1 u H1 F1 e1 R1 hv hP1 => ?_
  refine seqE2 (wE X.K U W G σ Q) R1 hv hP1 fun v2 s2 u2 H2 F2 e2 R2 hv' hv2 hP2 => ?_
  obtain ⟨i, rfl, hP3⟩ := int_go (wE X.K U W G σ Q) R2 (held_less R2 hv' hv2) hP2
  exact ⟨i, rfl, cut_go R2 hv' hP3⟩
theorem xe_slcB {p2 : Pos} (ha : PE X a (tE X.K U W Φ ca)) (hb : PE X b (tE X.K U W Φ cb)) (hc : PE X c (tE X.K U W Φ cc)) : PE X (.Subscript a (.Slice (some b) (some c) none p2) pos) (tE X.K U W Φ (.slcB ca cb cc)) := by
  refine PE.imp (pe_slice ss_cut ha (po_some hb) (po_some hc)) fun σ H Q ⟨F, G, s, R, hP⟩ => ?_
  refine seqE (wE X.K U W G σ Q) R hP fun v s1 u H1 F1 e1 R1 hv hP1 => ?_
  refine seqE2 (wE X.K U W G σ Q) R1 hv hP1 fun v2 s2 u2 H2 F2 e2 R2 hv' hv2 hP2 => ?_
  obtain ⟨i, rfl, hP3⟩ := int_go (wE X.K U W G σ Q) R2 (held_less R2 hv' hv2) hP2
  refine ⟨i, rfl, ?_⟩
  refine seqE2 (wE X.K U W G σ Q) R2 hv' hP3 fun v3 s3 u3 H3 F3 e3 R3 hv'' hv3 hP4 => ?_
  obtain ⟨j, rfl, hP5⟩ := int_go (wE X.K U W G σ Q) R3 (held_less R3 hv'' hv3) hP4
  exact ⟨j, rfl, cut_go R3 hv'' hP5⟩

/-! ### isinstance -/
theorem tyX_of {d : D} (h : DatT F H u d) (e : Same F H) : TyX X.K H u (.type (tyD d)) := by
  cases h with
  | dat h =>
    cases h with
    | non => exact .base .non
    | bl b => exact .base (.bl b)
    | int i => exact .base (.int i)
    | str x => exact .base (.str x)
    | lst h1 _ => exact .base (.lst (e _ _ h1))
    | tup h1 _ => exact .base (.tup (e _ _ h1))
    | dic h1 => exact .base (.dK (e _ _ h1))
  | lst h1 _ => exact .base (.lst h1)
  | dct h1 h2 => obtain ⟨rfl, _⟩ := h2; exact .base (.dK h1)
theorem DatT.grow {d : D} (h : DatT F H u d) (g : Grow F H F' H') : DatT F' H' u d := by
  cases h with
  | dat h => exact .dat (Dat.mono g.f _ _ h)
  | lst h1 h2 => exact .lst (g.h _ _ h1) (DatL.mono g.f _ _ h2)
  | dct h1 h2 => exact .dct (g.h _ _ h1) h2
theorem exc_or (v : Vl) : (∀ c, v ≠ .exc c) ∨ ∃ c, v = .exc c := by
  cases v with
  | exc c => exact .inr ⟨c, rfl⟩
  | _ => exact .inl (fun _ z => nomatch z)
theorem isi_data {ts : List Ty} (hn : ∀ c, v ≠ .exc c) : isi v ts s = if ts.all plainTy then (match peek s v with
      | some d => .ok (.dat (.bool (isTys d ts))) s
      | none => .bad) else .bad := by
  cases v <;> first | rfl | exact absurd rfl (hn _)
theorem isi_plain {ts : List Ty} {Q : VK} (hts : ts.all plainTy = true) (hne : ts ≠ []) (R : Rep X.K U F G H σ s) (hv : RepV X.K U F G H σ s u v) (hP : PostE X.K U W F G σ (isi v ts s) Q) : ∃ d, DatT F H u d ∧ PostP F H (.dat (.bool (isTys d ts))) Q := by
  rcases exc_or v with hn | ⟨c, rfl⟩
  · rw [isi_data hn, if_pos hts] at hP
    cases e2 : peek s v with
    | none => rw [e2] at hP; exact hP.elim
    | some d => rw [e2] at hP; exact ⟨d, peek_dat R hv e2, postP_of (W := W) R hP⟩
  · have e : isi (.exc c) ts s = .bad := by
      cases ts with
      | nil => exact absurd rfl hne
      | cons t ts =>
        rw [List.all_cons, Bool.and_eq_true] at hts
        show (if (t :: ts).all (fun t => !plainTy t) then _ else _) = _
        rw [List.all_cons, hts.1]
        rfl
    rw [e] at hP
    exact hP.elim
theorem kit_one {d : D} {t : Ty} {K : PySem.W.Frag} (h : plainTy t = true) : PySem.W.kitOne K (.type (tyD d)) (.type (tyS t)) = some (isTy d t) := kit_ty (kit_data d t h)
theorem xe_isi {te : Expr} {t : Ty} (ht : plainTy t = true) (hg : Gl X "isinstance") (hm : X.mg "isinstance" = none) (ha : PE X a (tE X.K U W Φ ca)) (hs : starless a = true) (hte : PE X te (tC (.ty (tyS t)))) (hs2 : starless te = true) :
    PE X (.Call (.Name "isinstance" p) [a, te] [] pos) (tE X.K U W Φ (.isi ca [t])) := by
  refine PE.imp (pe_callB call_isi hg hm PyProof.Rows.boot_isinstance (pa_cons ha (pa_cons hte pa_nil (starless_eq hs2)) (starless_eq hs)) (by decide) (by decide) (starless_eq hs) (backTo_one hs2)) fun σ H Q ⟨F, G, s, R, hP⟩ => ?_
  refine seqE (wE X.K U W G σ Q) R hP fun v s1 u H1 F1 e1 R1 hv hP1 => ?_
  obtain ⟨d, hd, hq⟩ := isi_plain (by simp [ht]) (by simp) R1 hv hP1
  have e : isTys d [t] = isTy d t := by simp [isTys]
  rw [e] at hq
  exact ⟨u, _, _, _, _, rfl, .ty _, tyX_of hd R1.fh, kit_one ht, hq.at R1.fh (.bl _)⟩
theorem xe_isi2 {t1 t2 : Ty} {e1 e2 : Expr} {k : Nat} {tp : Pos} (ht1 : plainTy t1 = true) (ht2 : plainTy t2 = true) (hg : Gl X "isinstance") (hm : X.mg "isinstance" = none) (ha : PE X a (tE X.K U W Φ ca)) (hs : starless a = true)
    (h1 : PE X e1 (tC (.ty (tyS t1)))) (h2 : PE X e2 (tC (.ty (tyS t2)))) (hs1 : starless e1 = true) (hs2 : starless e2 = true) :
    PE X (.Call (.Name "isinstance" p) [a, .Tuple [e1, e2] k tp] [] pos) (tE X.K U W Φ (.isi ca [t1, t2])) := by
  have ht : PE X (.Tuple [e1, e2] k tp) (tTup (tCons (tC (.ty (tyS t1))) (tCons (tC (.ty (tyS t2))) tNil))) := pe_tup (pa_cons h1 (pa_cons h2 pa_nil (starless_eq hs2)) (starless_eq hs1))
  refine PE.imp (pe_callB call_isiT hg hm PyProof.Rows.boot_isinstance (pa_cons ha (pa_cons ht pa_nil) (starless_eq hs)) (by decide) (by decide) (starless_eq hs)) fun σ H Q ⟨F, G, s, R, hP⟩ => ?_
  refine seqE (wE X.K U W G σ Q) R hP fun v s1 u H1 F1 e1 R1 hv hP1 => ?_
  refine ⟨by show 2 ≤ sizeLine; decide, fun tp htp => ?_⟩
  obtain ⟨d, hd, hq⟩ := isi_plain (by simp [ht1, ht2]) (by simp) R1 hv hP1
  have g : Grow F1 H1 F1 (upd H1 tp (.tup [.ty (tyS t1), .ty (tyS t2)])) := Grow.laid R1.fh htp
  refine ⟨u, tp, _, _, _, _, rfl, upd_same, .cons (.ty _) (.cons (.ty _) .nil), tyX_of (hd.grow g) g.fh, ?_, hq _ _ _ g (.bl _)⟩
  unfold isTys
  rw [List.any_cons, List.any_cons, List.any_nil, Bool.or_false]
  unfold PySem.W.kitAny
  rw [kit_one ht1]
  cases isTy d t1 with
  | true => rfl
  | false =>
    show PySem.W.kitAny X.K _ [_] = _
    unfold PySem.W.kitAny
    rw [kit_one ht2]
    cases isTy d t2 <;> rfl
/-- isinstance of a caught exception -/
def rIsiE (K : PySem.W.Frag) (U : Au) (t : Ty) (cu : Value) : List V → Hp → VK → Prop := fun xs H Q => ∃ (q : Addr) (c : Nat) (cv : V), xs = [.ref q, cv] ∧ ClsV cv cu ∧ U.px q c ∧ PySem.W.kitOne K (.ref (U.ea c)) cu = some (excTy c t) ∧ Q (.bl (excTy c t)) H
/-- what a pinned exception is -/
def PxOk (X : Cx) (U : Au) (n : Nat) : Prop := ∀ q c, U.px q c → EcOk X.K U.ea n c ∧ ∃ oe vs, (q, oe) ∈ X.pn ∧ oe.cls = .ref (U.ea c) ∧ oe.dict = none ∧ oe.data = .fields vs
theorem isiE_ok {n : Nat} {t : Ty} {cu : Value} (hpx : PxOk X U n) : CallR X (.builtin "isinstance") (rIsiE X.K U t cu) := by
  intro pins s σ H xs us Q I r h
  obtain ⟨q, c, cv, rfl, hcl, px, hk, hq⟩ := h
  obtain ⟨u1, u2, rfl, r1, r2⟩ := vals2 r
  have e2 := hcl.eq r2
  subst e2
  cases (show u1 = Value.ref q from r1)
  obtain ⟨ec, oe, vs, hm, h1, h2, h3⟩ := hpx q c px
  have hp := I.pin (q, oe) (List.mem_append_left _ hm)
  obtain ⟨gt, hgt⟩ := ec.gt
  have J : PySem.W.InstAt s.heap q oe (U.ea c) none := ⟨hp.1, h1, by unfold PySem.W.notCls; rw [h3] <;> rfl, by rw [h2]; trivial⟩
  exact PySem.W.kia_one (PySem.W.kitx_exc (x := q) (ox := oe) (od := none) ec.cl ec.ga hgt ec.sub ec.ca ec.sp ec.tk ec.mo) I.kIn J hk (fun z => nomatch z) fun tk => ⟨.bl _, H, I.tok tk, rfl, hq⟩
theorem xe_isiE {te : Expr} {t : Ty} {n : Nat} {cv : V} {cu : Value} (hpx : PxOk X U n)
    (hg : Gl X "isinstance") (hm : X.mg "isinstance" = none) (ha : PE X a (tE X.K U W Φ ca)) (hs : starless a = true) (hte : PE X te (tC cv)) (hcl : ClsV cv cu) (hs2 : starless te = true)
    (hk : ∀ c, EcOk X.K U.ea n c → PySem.W.kitOne X.K (.ref (U.ea c)) cu = some (excTy c t)) (hpt : plainTy t = false) : PE X (.Call (.Name "isinstance" p) [a, te] [] pos) (tE X.K U W Φ (.isi ca [t])) := by
  refine PE.imp (pe_callB (isiE_ok (t := t) (cu := cu) hpx) hg hm PyProof.Rows.boot_isinstance (pa_cons ha (pa_cons hte pa_nil (starless_eq hs2)) (starless_eq hs)) (by decide) (by decide) (starless_eq hs) (backTo_one hs2)) fun σ H Q ⟨F, G, s, R, hP⟩ => ?_
  refine seqE (wE X.K U W G σ Q) R hP fun v s1 u H1 F1 e1 R1 hv hP1 => ?_
  rcases exc_or v with hn | ⟨c, rfl⟩
  · have e : isi v [t] s1 = .bad := by
      rw [isi_data hn]
      simp [hpt]
    rw [e] at hP1
    exact hP1.elim
  · obtain ⟨q, rfl, hq⟩ := hv
    have e : isi (.exc c) [t] s1 = .ok (.dat (.bool (excTy c t))) s1 := by
      show (if [t].all (fun t => !plainTy t) then _ else _) = _
      simp [hpt]
    rw [e] at hP1
    exact ⟨q, c, cv, rfl, hcl, hq, hk c (hpx q c hq).1, hP1 _ H1 F1 (Same.refl _) R1 (.bl _)⟩
end
end Fc

/-! enumerate over a tuple -/
namespace Fc
open PySem PySem.Spec PyProof.Rows L2
theorem meets_enumT (l : Addr) (items : Array Value) : Meets (Builtin.«enumerate.__new__» ⟨[.type "enumerate", .ref l], []⟩) (fun _ R s => s.heap.IsTuple l items ∧
    R (.ok (.ret (.ref (s.heap.push { cls := .type "tuple_iterator", data := .fields #[.ref l, .int 0 0] }).objs.size)))
      { s with heap := (s.heap.push { cls := .type "tuple_iterator", data := .fields #[.ref l, .int 0 0] }).push { cls := .type "enumerate", data := .fields #[.none, .bool false, .ref s.heap.objs.size, rawInt 0, .none, .none] } }) :=
  .of_wp fun prog w A R s h => by
    obtain ⟨hp, g, d, tk, os⟩ := s; obtain ⟨hT, h⟩ := h
    have hsub := sub_enumerate
    have hT' : Heap.IsTuple (Shared.heap ⟨hp, g, d, tk, os⟩) l items := hT
    obtain ⟨o, ho, hc, n, hd⟩ := id hT'
    obtain ⟨c, dct, dt, sl⟩ := o
    replace hc : c = .type "tuple" := hc
    replace hd : dt = .seq items n := hd
    subst hc hd
    wp_walk using AutoSeq1.wpAny_loadPart' ho
    refine wpAny_stack_any fun st => wpAny_pure ?_
    split
    · rename_i c _ _ _ _ _
      cases (c == Value.type "enumerate")
      · wp_walk using AutoSeq1.wpAny_loadPart' ho, wpAny_pyIter_tuple hT'
        exact ⟨_, rfl, h⟩
      · wp_walk using AutoSeq1.wpAny_loadPart' ho, wpAny_pyIter_tuple hT'
        exact ⟨_, rfl, h⟩
    · wp_walk using AutoSeq1.wpAny_loadPart' ho, wpAny_pyIter_tuple hT'
      exact ⟨_, rfl, h⟩
theorem call_enumT {prog : Program} {w : World} {A : Around} {E : Value → Shared → Prop} {s : Shared} {l : Addr} {items : Array Value} {Q : Value → Shared → Prop} (hT : s.heap.IsTuple l items)
    (h : ∀ h', IsEnum h' (s.heap.objs.size + 1) s.heap.objs.size 0 .none → h'.IsTupleIter s.heap.objs.size l 0 → (∀ b o, s.heap.get? b = some o → h'.get? b = some o) → Q (.ref (s.heap.objs.size + 1)) { s with heap := h' }) :
    wpAny (model prog w) A (call (.type "enumerate") [.ref l]) Q E s := by
  refine callType_new F.called_enumerate (by decide) (F.typeCall_enumerate_1 _) (F.newCall_enumerate_1 _) (fun obj => F.args_object_init_2 obj _) F.entry_enumerate_new (meets_enumT l items) ⟨hT, ?_⟩
  generalize ho : ({ cls := .type "tuple_iterator", data := .fields #[.ref l, .int 0 0] } : Obj) = o
  have hz : (s.heap.push o).objs.size = s.heap.objs.size + 1 := Heap.size_push ..
  rw [hz]
  have hf : o.isFreed = false := by subst ho; rfl
  have e1 := Heap.get?_push_size (s.heap.push o) (o := { cls := .type "enumerate", data := .fields #[.none, .bool false, .ref s.heap.objs.size, rawInt 0, .none, .none] }) rfl
  rw [hz] at e1
  have e2 := Heap.get?_push_of_some { cls := .type "enumerate", data := .fields #[.none, .bool false, .ref s.heap.objs.size, rawInt 0, .none, .none] } (Heap.get?_push_size s.heap hf)
  refine ⟨⟨_, e1, rfl⟩, h _ e1 ⟨o, e2, by subst ho; rfl, by subst ho; rfl⟩ fun b o' q => Heap.get?_push_of_some _ (Heap.get?_push_of_some _ q)⟩

/-- the tuple at a, each item in a new pair -/
def ItE (K : PySem.W.Frag) (a : Addr) : L2.It :=
  ⟨fun i H => ∃ (xs : List V) (x : V), SqT K H a xs ∧ xs[i]? = some x, fun i H v H' => ∃ T x, v = .ref T ∧ H T = none ∧ H' = upd H T (.tup [.int (i : Nat), x]) ∧ ∀ xs, SqT K H a xs → xs[i]? = some x, fun i H => ∃ xs : List V, SqT K H a xs ∧ xs.length ≤ i⟩
theorem tup_len {h : Heap} {t : Addr} {a b : Array Value} (x : h.IsTuple t a) (y : h.IsTuple t b) : a = b := by
  obtain ⟨o, e, _, n, d⟩ := x
  obtain ⟨o', e', _, n', d'⟩ := y
  rw [e] at e'; cases e'
  rw [d] at d'; cases d'; rfl
theorem turnE {P : Program} {w : World} {K : PySem.W.Frag} {elts : List Expr} {kk : Nat} {tpos : Pos} (a e it : Addr) :
    Turn P w K (.Tuple elts kk tpos) (ItE K a) [e, it] e (fun i h => (∃ old, IsEnum h e it ((i : Nat) : Int) old) ∧ h.IsTupleIter it a i ∧ e ≠ it) where
  mem := List.mem_cons_self
  obj := fun i h st b hb => by
    obtain ⟨⟨old, he⟩, ⟨o, ho, hc, hd⟩, _⟩ := st
    rcases List.mem_cons.mp hb with z | z
    · subst z; exact ⟨_, he, fun v q => nomatch q⟩
    · rw [List.mem_singleton.mp z]; exact ⟨o, ho, fun v q => by rw [hd] at q; cases q⟩
  keep := fun i h h' st k => by
    obtain ⟨⟨old, he⟩, hi, hne⟩ := st
    exact ⟨⟨old, k e List.mem_cons_self _ he⟩, hi.at fun o q => k it (List.mem_cons_of_mem _ List.mem_cons_self) o q, hne⟩
  item := by
    intro X hP hw hK hc i pins s σ H E I hf st hg
    subst hP hw hK
    obtain ⟨⟨old, he⟩, hit, hne⟩ := st
    obtain ⟨xs, x, hq, hx⟩ := hg
    obtain ⟨its, rv, p, hz⟩ := I.tuple hq
    obtain ⟨u, hu, ru⟩ := rv.get hx
    have hel := Heap.lt_size he
    have hil : it < s.heap.objs.size := by obtain ⟨_, q, _⟩ := hit; exact Heap.lt_size q
    have pt : s.heap.IsTuple a its.toArray := p
    have hai : a ≠ it := fun z => by
      obtain ⟨o1, q1, c1, _⟩ := pt
      obtain ⟨o2, q2, c2, _⟩ := hit
      rw [z, q2] at q1; cases q1
      rw [c2] at c1; exact absurd c1 (by decide)
    have hae : e ≠ a := fun z => by
      obtain ⟨o1, q1, c1, _⟩ := pt
      have he' : s.heap.get? e = some _ := he
      rw [z, q1] at he'; cases he'
      have c1 : Value.type "enumerate" = Value.type "tuple" := c1
      exact absurd c1 (by decide)
    have hd0 : X.A.in1.handled = none := I.ok.hd hc
    have hil' : i < its.toArray.size := by
      have := (List.getElem?_eq_some_iff.mp hu).1
      simpa using this
    refine wpAny_pyNext_enum_itemD (Draws.tuple hd0 it a hai its.toArray) he ⟨hit, pt⟩ hil' hne (fun z => by
      rcases List.mem_cons.mp z with z | z
      · exact hne z
      · exact hae (List.mem_singleton.mp z)) fun y h' tk hy ho st' hT hsz hk => ?_
    have ey : y = u := by
      have hy : its.toArray[i]? = some y := hy
      rw [List.getElem?_toArray, hu] at hy; cases hy; rfl
    subst ey
    refine ⟨_, rfl, wpAny_letOwnedTupleGo_enum (s := { s with heap := h', toks := tk + 1 }) ho fun h'' he' sb => ?_⟩
    have hT2 := (sb.2 _ (Nat.ne_of_gt hel)).trans hT
    have new : ObjOk X.prog X.w (upd H s.heap.objs.size (.tup [.int (i : Nat), x])) h'' s.heap.objs.size (.tup [.int (i : Nat), x]) :=
      ⟨by show 2 ≤ sizeLine; decide, [.int i tk, y], .cons ⟨_, rfl⟩ (.cons ru .nil), ⟨_, hT2, rfl, _, rfl⟩⟩
    have mem2 : ∀ b, b ∉ [e, it] → b ≠ e ∧ b ≠ it := fun b hb => ⟨fun z => hb (by rw [z]; exact List.mem_cons_self), fun z => hb (by rw [z]; exact List.mem_cons_of_mem _ List.mem_cons_self)⟩
    have I1 : Inv X pins σ (upd H s.heap.objs.size (.tup [.int (i : Nat), x])) { s with heap := h'', toks := tk + 1 } :=
      I.turnedNew (ch := [e, it]) (fun b ob hb q => (sb.2 b (mem2 b hb).1).trans (hk b ob (mem2 b hb).1 (mem2 b hb).2 q)) hf (Nat.le_refl _) new
    refine ⟨.ref s.heap.objs.size, _, I1, rfl, ⟨_, x, rfl, I.hok.fresh (Nat.le_refl _), rfl, fun ys hy => by rw [I.tuple_inj hy hq]; exact hx⟩, ⟨⟨y, ?_⟩, st'.1.at fun o q => (sb.2 it (Ne.symm hne)).trans q, hne⟩, fun b hb => ?_⟩
    · have e1 : ((i + 1 : Nat) : Int) = (i : Int) + 1 := by omega
      rw [e1]; exact he'
    · have hb' : b < s.heap.objs.size := by
        rcases List.mem_cons.mp hb with z | z
        · rw [z]; exact hel
        · rw [List.mem_singleton.mp z]; exact hil
      rw [upd_ne (Nat.ne_of_lt hb')]
      exact (hf b hb).1
  done := by
    intro X hP hw hK hc i pins s σ H E I hf st hg
    subst hP hw hK
    obtain ⟨⟨old, he⟩, hit, hne⟩ := st
    obtain ⟨xs, hq, hx⟩ := hg
    obtain ⟨its, rv, p, hz⟩ := I.tuple hq
    have pt : s.heap.IsTuple a its.toArray := p
    obtain ⟨f0, f1, f2, f3, f4, f5⟩ := hf it (List.mem_cons_of_mem _ List.mem_cons_self)
    have hl := rv.length
    have hai : a ≠ it := fun z => by
      obtain ⟨o1, q1, c1, _⟩ := pt
      obtain ⟨o2, q2, c2, _⟩ := hit
      rw [z, q2] at q1; cases q1
      rw [c2] at c1; exact absurd c1 (by decide)
    have hd0 : X.A.in1.handled = none := I.ok.hd hc
    have hT : s.TypeIs (.ref e) "enumerate" := ⟨_, he, rfl⟩
    unfold pyNext
    refine wpAny_bind (wpAny_attempt (wpAny_callSpecial?_slot (name := Str.ofString "__next__") hT F.slot_enumerate_next (wpAny_call_entry F.slot_enumerate_next hT F.entry_enumerate_next ?_ (F.args_enumerate_next_1 _))))
    show wpAny _ _ (field (.ref e) 2 >>= _) _ _ _
    refine wpAny_bind (wpAny_field he rfl (x := .ref it) rfl ?_)
    refine wpAny_bind (wpAny_nextOf_tuple_end hd0 hit pt (by rw [List.getElem?_toArray, List.getElem?_eq_none_iff]; omega) fun h' x he' hx' => ?_)
    obtain ⟨o, ho, hcl⟩ := hx'
    refine wpAny_bind (wpAny_isInstance (T := "StopIteration") (b := true) ⟨o, ho, hcl⟩ isSubtype_stop ?_)
    exact wpAny_pure ⟨rfl, I.turned (t' := s.toks) (fun b o hb q => he' b o hb q) f0 f1 f3 f4 f5⟩
  self := fun A i s Q E st h => let ⟨⟨_, he⟩, _⟩ := st; wpAny_pyIter_enum he h
def iEnT (K : PySem.W.Frag) (ta : TA) : TI := fun σ H R => ta σ H fun vs H1 => ∃ a xs, vs = [.ref a] ∧ ((SqL K H1 a xs ∧ R (Ite K a) H1) ∨ (SqT K H1 a xs ∧ R (ItE K a) H1))
theorem pi_enT {X : Cx} {e : Expr} {ta : TA} {p pos tpos : Pos} {elts : List Expr} {kk : Nat} (hg : Gl X "enumerate") (hm : X.mg "enumerate" = none) (ha : PA X [e] ta) (hs : starEach [e] X.env = [(false, eval e X.env)]) :
    PI X (.Tuple elts kk tpos) (.Call (.Name "enumerate" p) [e] [] pos) (iEnT X.K ta) := by
  refine ⟨fun pins s σ H R I h => ?_⟩
  refine Call_ (ld_blt I hg hm boot_enumerate (PyProof.Rows.callWith_type1 (thn (ha.run pos pins s σ H _ I h) fun us s1 ⟨vs, H1, I1, r1, q1⟩ => ?_) hs rfl))
  obtain ⟨a, xs, ex, q1⟩ := q1
  subst ex
  have fresh : ∀ b ∈ [s1.heap.objs.size + 1, s1.heap.objs.size], FpOk X pins H1 b := fun b hb => by
    have hle : s1.heap.objs.size ≤ b := by
      rcases List.mem_cons.mp hb with z | z
      · rw [z]; exact Nat.le_add_right _ _
      · rw [List.mem_singleton.mp z]; exact Nat.le_refl _
    exact I1.fpOk hle (I1.hok.fresh hle)
  cases r1 with
  | cons r rr =>
    cases rr
    cases r
    rcases q1 with ⟨hq, q⟩ | ⟨hq, q⟩
    · obtain ⟨its, rv, p', hz⟩ := I1.list hq
      refine call_enumerate_list p'.isList fun h' he hit hsz hk => wpAny_pyIter_enum he ?_
      exact ⟨_, _, _, _, H1, rfl, I1.kept (t' := s1.toks) hk, turn_enum a (s1.heap.objs.size + 1) s1.heap.objs.size, ⟨⟨.none, he⟩, hit, Nat.succ_ne_self _⟩, fresh, q⟩
    · obtain ⟨its, rv, p', hz⟩ := I1.tuple hq
      have pt : s1.heap.IsTuple a its.toArray := p'
      refine call_enumT pt fun h' he hit hk => wpAny_pyIter_enum he ?_
      exact ⟨_, _, _, _, H1, rfl, I1.kept (t' := s1.toks) hk, turnE a (s1.heap.objs.size + 1) s1.heap.objs.size, ⟨⟨.none, he⟩, hit, Nat.succ_ne_self _⟩, fresh, q⟩
end Fc

/-! what is walked; comprehensions -/
namespace Fc
open PySem PySem.Spec PyProof.Rows L2

/-- an iterator yields these data -/
structure ItOk (F : Hp) (J : L2.It) (xs : List D) : Prop where
  len : xs.length ≤ sizeLine
  go : ∀ i H, Same F H → i < xs.length → J.go i H
  stop : ∀ i H, Same F H → xs.length ≤ i → J.stop i H
  yld : ∀ i H F' x H' d, Same F F' → Same F' H → xs[i]? = some d → J.yld i H x H' → ∃ F'', Grow F' H F'' H' ∧ Dat F'' x d

section
variable {K : PySem.W.Frag} {F H : Hp} {a b : Addr} {vs ws : List V} {xs ys : List D}
theorem itOk_list (h : F a = some (.lst vs)) (hd : DatL F vs xs) (hl : vs.length ≤ sizeLine) : ItOk F (Itl K a) xs where
  len := by rw [← hd.length]; exact hl
  go := fun i H e hi => by
    have hi' : i < vs.length := by rw [hd.length]; exact hi
    exact ⟨vs, vs[i], SqL.of (e _ _ h), List.getElem?_eq_getElem hi'⟩
  stop := fun i H e hi => ⟨vs, SqL.of (e _ _ h), by rw [hd.length]; exact hi⟩
  yld := fun i H F' x H' d e1 e2 hx y => by
    obtain ⟨rfl, y⟩ := y
    obtain ⟨v, h1, h2⟩ := hd.get hx
    have := y vs (SqL.of ((e1.trans e2) _ _ h))
    rw [h1] at this; cases this
    exact ⟨F', Grow.refl e2, Dat.mono e1 _ _ h2⟩
theorem itOk_tup (h : F a = some (.tup vs)) (hd : DatL F vs xs) (hl : vs.length ≤ sizeLine) : ItOk F (Itt K a) xs where
  len := by rw [← hd.length]; exact hl
  go := fun i H e hi => by
    have hi' : i < vs.length := by rw [hd.length]; exact hi
    exact ⟨vs, vs[i], SqT.of (e _ _ h), List.getElem?_eq_getElem hi'⟩
  stop := fun i H e hi => ⟨vs, SqT.of (e _ _ h), by rw [hd.length]; exact hi⟩
  yld := fun i H F' x H' d e1 e2 hx y => by
    obtain ⟨rfl, y⟩ := y
    obtain ⟨v, h1, h2⟩ := hd.get hx
    have := y vs (SqT.of ((e1.trans e2) _ _ h))
    rw [h1] at this; cases this
    exact ⟨F', Grow.refl e2, Dat.mono e1 _ _ h2⟩
theorem iotaI_length (lo : Int) (n : Nat) : (iotaI lo n).length = n := by unfold iotaI; rw [List.length_map, List.length_range]
theorem iotaI_get {lo : Int} {n i : Nat} {d : D} (h : (iotaI lo n)[i]? = some d) : d = .int (lo + (i : Nat)) := by
  have hi : i < n := by have := (List.getElem?_eq_some_iff.mp h).1; rw [iotaI_length] at this; exact this
  unfold iotaI at h
  rw [List.getElem?_map, List.getElem?_range hi] at h
  cases h; rfl
theorem itOk_rng (lo : Int) (n : Nat) (hn : n ≤ sizeLine) : ItOk F (Itr lo n) (iotaI lo n) where
  len := by rw [iotaI_length]; exact hn
  go := fun i H e hi => by rw [iotaI_length] at hi; exact hi
  stop := fun i H e hi => by rw [iotaI_length] at hi; exact hi
  yld := fun i H F' x H' d e1 e2 hx y => by
    obtain ⟨rfl, y⟩ := y
    rw [iotaI_get hx]
    subst y
    exact ⟨F', Grow.refl e2, .int _⟩
theorem enumD_length : ∀ (xs : List D) (k : Nat), (enumD k xs).length = xs.length
  | [], _ => rfl
  | _ :: xs, k => by unfold enumD; rw [List.length_cons, List.length_cons, enumD_length xs]
theorem enumD_get : ∀ {xs : List D} {k i : Nat} {d : D}, (enumD k xs)[i]? = some d → ∃ x, xs[i]? = some x ∧ d = .tuple [.int ((k + i : Nat)), x]
  | [], _, _, _, h => by unfold enumD at h; simp at h
  | x :: xs, k, 0, d, h => by unfold enumD at h; simp at h; subst h; exact ⟨x, rfl, rfl⟩
  | x :: xs, k, i + 1, d, h => by
    unfold enumD at h
    rw [List.getElem?_cons_succ] at h
    obtain ⟨y, h1, h2⟩ := enumD_get h
    exact ⟨y, by rw [List.getElem?_cons_succ]; exact h1, by rw [h2]; congr 3; omega⟩
theorem grow_pair {H F' : Hp} {T : Addr} {u v : V} {d e : D} (hF : Same F' H) (hT : H T = none) (hu : Dat F' u d) (hv : Dat F' v e) : ∃ F'', Grow F' H F'' (upd H T (.tup [u, v])) ∧ Dat F'' (.ref T) (.tuple [d, e]) := by
  refine ⟨upd F' T (.tup [u, v]), Grow.laidF hF hT, .tup upd_same ?_⟩
  have e1 : Same F' (upd F' T (.tup [u, v])) := same_upd (hF.free hT)
  exact .cons (Dat.mono e1 _ _ hu) (.cons (Dat.mono e1 _ _ hv) .nil)
theorem itOk_enumL (h : F a = some (.lst vs)) (hd : DatL F vs xs) (hl : vs.length ≤ sizeLine) : ItOk F (Ite K a) (enumD 0 xs) where
  len := by rw [enumD_length, ← hd.length]; exact hl
  go := fun i H e hi => by
    rw [enumD_length] at hi
    have hi' : i < vs.length := by rw [hd.length]; exact hi
    exact ⟨vs, vs[i], SqL.of (e _ _ h), List.getElem?_eq_getElem hi'⟩
  stop := fun i H e hi => ⟨vs, SqL.of (e _ _ h), by rw [enumD_length] at hi; rw [hd.length]; exact hi⟩
  yld := fun i H F' x H' d e1 e2 hx y => by
    obtain ⟨T, z, rfl, hT, rfl, y⟩ := y
    obtain ⟨dx, h1, rfl⟩ := enumD_get hx
    obtain ⟨v, h3, h4⟩ := hd.get h1
    have := y vs (SqL.of ((e1.trans e2) _ _ h))
    rw [h3] at this; cases this
    rw [Nat.zero_add]
    exact grow_pair e2 hT (.int _) (Dat.mono e1 _ _ h4)
theorem itOk_enumT (h : F a = some (.tup vs)) (hd : DatL F vs xs) (hl : vs.length ≤ sizeLine) : ItOk F (ItE K a) (enumD 0 xs) where
  len := by rw [enumD_length, ← hd.length]; exact hl
  go := fun i H e hi => by
    rw [enumD_length] at hi
    have hi' : i < vs.length := by rw [hd.length]; exact hi
    exact ⟨vs, vs[i], SqT.of (e _ _ h), List.getElem?_eq_getElem hi'⟩
  stop := fun i H e hi => ⟨vs, SqT.of (e _ _ h), by rw [enumD_length] at hi; rw [hd.length]; exact hi⟩
  yld := fun i H F' x H' d e1 e2 hx y => by
    obtain ⟨T, z, rfl, hT, rfl, y⟩ := y
    obtain ⟨dx, h1, rfl⟩ := enumD_get hx
    obtain ⟨v, h3, h4⟩ := hd.get h1
    have := y vs (SqT.of ((e1.trans e2) _ _ h))
    rw [h3] at this; cases this
    rw [Nat.zero_add]
    exact grow_pair e2 hT (.int _) (Dat.mono e1 _ _ h4)
theorem zipD_length : ∀ (xs ys : List D), (zipD xs ys).length = min xs.length ys.length
  | [], _ => by simp [zipD]
  | _ :: _, [] => by simp [zipD]
  | _ :: xs, _ :: ys => by simp [zipD, zipD_length xs ys, Nat.succ_min_succ]
theorem zipD_get : ∀ {xs ys : List D} {i : Nat} {d : D}, (zipD xs ys)[i]? = some d → ∃ x y, xs[i]? = some x ∧ ys[i]? = some y ∧ d = .tuple [x, y]
  | [], _, _, _, h => by simp [zipD] at h
  | _ :: _, [], _, _, h => by simp [zipD] at h
  | x :: xs, y :: ys, 0, d, h => by simp [zipD] at h; subst h; exact ⟨x, y, rfl, rfl, rfl⟩
  | x :: xs, y :: ys, i + 1, d, h => by
    unfold zipD at h
    rw [List.getElem?_cons_succ] at h
    obtain ⟨u, v, h1, h2, h3⟩ := zipD_get h
    exact ⟨u, v, by rw [List.getElem?_cons_succ]; exact h1, by rw [List.getElem?_cons_succ]; exact h2, h3⟩
theorem itOk_zipL (h : F a = some (.lst vs)) (hd : DatL F vs xs) (h' : F b = some (.lst ws)) (hd' : DatL F ws ys) (hl : vs.length ≤ sizeLine) : ItOk F (Itz K a b) (zipD xs ys) where
  len := by rw [zipD_length, ← hd.length]; omega
  go := fun i H e hi => by
    rw [zipD_length] at hi
    have h1 : i < vs.length := by rw [hd.length]; omega
    have h2 : i < ws.length := by rw [hd'.length]; omega
    exact ⟨vs, ws, vs[i], ws[i], SqL.of (e _ _ h), SqL.of (e _ _ h'), List.getElem?_eq_getElem h1, List.getElem?_eq_getElem h2⟩
  stop := fun i H e hi => ⟨vs, ws, SqL.of (e _ _ h), SqL.of (e _ _ h'), by rw [zipD_length] at hi; rw [hd.length, hd'.length]; omega⟩
  yld := fun i H F' x H' d e1 e2 hx y => by
    obtain ⟨T, z, z', rfl, hT, rfl, y, y'⟩ := y
    obtain ⟨dx, dy, h1, h2, rfl⟩ := zipD_get hx
    obtain ⟨v, h3, h4⟩ := hd.get h1
    obtain ⟨w, h5, h6⟩ := hd'.get h2
    have := y vs (SqL.of ((e1.trans e2) _ _ h))
    rw [h3] at this; cases this
    have := y' ws (SqL.of ((e1.trans e2) _ _ h'))
    rw [h5] at this; cases this
    exact grow_pair e2 hT (Dat.mono e1 _ _ h4) (Dat.mono e1 _ _ h6)
theorem itOk_zipT (h : F a = some (.tup vs)) (hd : DatL F vs xs) (h' : F b = some (.tup ws)) (hd' : DatL F ws ys) (hl : vs.length ≤ sizeLine) : ItOk F (RZ.ItzT K a b) (zipD xs ys) where
  len := by rw [zipD_length, ← hd.length]; omega
  go := fun i H e hi => by
    rw [zipD_length] at hi
    have h1 : i < vs.length := by rw [hd.length]; omega
    have h2 : i < ws.length := by rw [hd'.length]; omega
    exact ⟨vs, ws, vs[i], ws[i], SqT.of (e _ _ h), SqT.of (e _ _ h'), List.getElem?_eq_getElem h1, List.getElem?_eq_getElem h2⟩
  stop := fun i H e hi => ⟨vs, ws, SqT.of (e _ _ h), SqT.of (e _ _ h'), by rw [zipD_length] at hi; rw [hd.length, hd'.length]; omega⟩
  yld := fun i H F' x H' d e1 e2 hx y => by
    obtain ⟨T, z, z', rfl, hT, rfl, y, y'⟩ := y
    obtain ⟨dx, dy, h1, h2, rfl⟩ := zipD_get hx
    obtain ⟨v, h3, h4⟩ := hd.get h1
    obtain ⟨w, h5, h6⟩ := hd'.get h2
    have := y vs (SqT.of ((e1.trans e2) _ _ h))
    rw [h3] at this; cases this
    have := y' ws (SqT.of ((e1.trans e2) _ _ h'))
    rw [h5] at this; cases this
    exact grow_pair e2 hT (Dat.mono e1 _ _ h4) (Dat.mono e1 _ _ h6)
end

/-! ### readings of iterators -/
section
variable (K : PySem.W.Frag) (U : Au) (W : WX)
def PostI (F G : Hp) (σ : L2.St) (m : R (List D)) (Q : L2.It → Hp → Prop) : Prop := match m with
  | .ok xs s' => ∀ J H' F', Same F F' → Rep K U F' G H' σ s' → ItOk F' J xs → Q J H'
  | .exc c s' => ∀ H' F', Same F F' → Rep K U F' G H' σ s' → W (.ref (U.ea c)) none σ H'
  | .bad => False
variable (Φ : Nat → List Ar → Out)
def tI (c : It) : TI := fun σ H Q => ∃ F G s, Rep K U F G H σ s ∧ PostI K U W F G σ (dIt Φ c s) Q
end
section
variable {X : Cx} {U : Au} {W : WX} {Φ : Nat → List Ar → Out} {F F' G G' H H' : Hp} {σ : L2.St} {s s' : St} {u u2 : V} {v w : Vl} {a b c : Expr} {ca cb cc : E} {pos p : Pos} {tg : Expr}
theorem PostI.mono {K : PySem.W.Frag} {m : R (List D)} {Q : L2.It → Hp → Prop} (h : PostI K U W F G σ m Q) (e : Same F F') : PostI K U W F' G σ m Q := by
  cases m with
  | ok v s' => exact fun u H' F'' a b c => h u H' F'' (e.trans a) b c
  | exc c s' => exact fun H' F'' a b => h H' F'' (e.trans a) b
  | bad => exact h
def wI (K : PySem.W.Frag) (U : Au) (W : WX) (G : Hp) (σ : L2.St) (Q : L2.It → Hp → Prop) : Wish K U W G σ (List D) := ⟨fun F m => PostI K U W F G σ m Q, fun h e => PostI.mono h e, fun h => h, fun h => h⟩
theorem PI.imp {iter : Expr} {t t' : TI} (h : PI X tg iter t) (k : ∀ σ H Q, t' σ H Q → t σ H Q) : PI X tg iter t' := ⟨fun pins s σ H Q I hw => h.run pins s σ H Q I (k σ H Q hw)⟩

/-- over a list or a tuple -/
def iSeq (K : PySem.W.Frag) (tl : TE) : TI := fun σ H R => tl σ H fun x H1 => ∃ a xs, x = .ref a ∧ ((SqL K H1 a xs ∧ (xs.length ≤ sizeLine → R (Itl K a) H1)) ∨ (SqT K H1 a xs ∧ (xs.length ≤ sizeLine → R (Itt K a) H1)))
theorem pi_seq {l : Expr} {tl : TE} (hl : PE X l tl) : PI X tg l (iSeq X.K tl) := by
  refine ⟨fun pins s σ H R I h => thn (hl.run pins s σ H _ I h) fun v s1 ⟨x, H1, I1, r1, q1⟩ => ?_⟩
  obtain ⟨a, xs, rfl, q1⟩ := q1
  cases r1
  have ic : PE X l (fun _ _ Q => Q (.ref a) H1) → True := fun _ => trivial
  have fresh : ∀ b ∈ [s1.heap.objs.size], FpOk X pins H1 b := fun b hb => by
    rw [List.mem_singleton.mp hb]
    exact I1.fpOk (Nat.le_refl _) (I1.hok.fresh (Nat.le_refl _))
  rcases q1 with ⟨hq, q⟩ | ⟨hq, q⟩
  · obtain ⟨its, rv, p, hz⟩ := I1.list hq
    refine wpAny_pyIter_list p.isList ?_
    exact ⟨_, _, _, _, H1, rfl, I1.kept (t' := s1.toks) fun b o e => Heap.get?_push_of_some _ e, turn_list a _, ⟨_, Heap.get?_push_size _ rfl, rfl, rfl⟩, fresh, q hz⟩
  · obtain ⟨its, rv, p, hz⟩ := I1.tuple hq
    have pt : s1.heap.IsTuple a its.toArray := p
    refine wpAny_pyIter_tuple pt ?_
    exact ⟨_, _, _, _, H1, rfl, I1.kept (t' := s1.toks) fun b o e => Heap.get?_push_of_some _ e, turn_tuple a _, ⟨_, Heap.get?_push_size _ rfl, rfl, rfl⟩, fresh, q hz⟩

theorem xi_of (ha : PE X a (tE X.K U W Φ ca)) : PI X tg a (tI X.K U W Φ (.of ca)) := by
  refine PI.imp (pi_seq ha) fun σ H Q ⟨F, G, s, R, hP⟩ => ?_
  refine seqE (wI X.K U W G σ Q) R hP fun v s1 u H1 F1 e1 R1 hv hP1 => ?_
  replace hP1 : PostI X.K U W F1 G σ (match frz s1 v with
    | some (d, s2) => ofO s2 (seqOf d)
    | none => .bad) Q := hP1
  cases e : frz s1 v with
  | none => rw [e] at hP1; exact hP1.elim
  | some x =>
    obtain ⟨d, s2⟩ := x
    rw [e] at hP1
    obtain ⟨F2, e2, R2, hd, _⟩ := frz_ok R1 hv e
    cases hd with
    | lst h1 h2 =>
      exact ⟨_, _, rfl, .inl ⟨SqL.of (R2.fh _ _ h1), fun hl => hP1 _ H1 F2 e2 R2 (itOk_list h1 h2 hl)⟩⟩
    | tup h1 h2 =>
      exact ⟨_, _, rfl, .inr ⟨SqT.of (R2.fh _ _ h1), fun hl => hP1 _ H1 F2 e2 R2 (itOk_tup h1 h2 hl)⟩⟩
    | _ => exact hP1.elim
theorem rngOk_of {i : Int} (h : rngOk i = true) : -1000000 ≤ i ∧ i ≤ 1000000 := by
  unfold rngOk at h
  rw [Bool.and_eq_true] at h
  exact ⟨of_decide_eq_true h.1, of_decide_eq_true h.2⟩
theorem xi_rng1 (hg : Gl X "range") (hm : X.mg "range" = none) (ha : PE X a (tE X.K U W Φ ca)) (hs : starless a = true) : PI X tg (.Call (.Name "range" p) [a] [] pos) (tI X.K U W Φ (.rng1 ca)) := by
  refine PI.imp (pi_range1 hg hm (pa_cons ha pa_nil (starless_eq hs)) (starless_eq hs)) fun σ H Q ⟨F, G, s, R, hP⟩ => ?_
  refine seqE (wI X.K U W G σ Q) R hP fun v s1 u H1 F1 e1 R1 hv hP1 => ?_
  obtain ⟨i, rfl, hP2⟩ := int_go (wI X.K U W G σ Q) R1 hv hP1
  cases e : rngOk i with
  | false => rw [e] at hP2; exact hP2.elim
  | true =>
    rw [e] at hP2
    have hb := rngOk_of e
    exact ⟨i, rfl, by omega, by omega, hP2 _ H1 F1 (Same.refl _) R1 (itOk_rng 0 _ (by rw [sizeLine_eq]; omega))⟩
theorem xi_rng2 (hg : Gl X "range") (hm : X.mg "range" = none) (ha : PE X a (tE X.K U W Φ ca)) (hb : PE X b (tE X.K U W Φ cb)) (hs : starless a = true) (hs2 : starless b = true) : PI X tg (.Call (.Name "range" p) [a, b] [] pos) (tI X.K U W Φ (.rng2 ca cb)) := by
  refine PI.imp (pi_range2 hg hm (pa_cons ha (pa_cons hb pa_nil (starless_eq hs2)) (starless_eq hs)) (by rw [starless_eq hs, starless_eq hs2]; rfl) (starless_eq hs2)) fun σ H Q ⟨F, G, s, R, hP⟩ => ?_
  refine seqE (wI X.K U W G σ Q) R hP fun v s1 u H1 F1 e1 R1 hv hP1 => ?_
  obtain ⟨i, rfl, hP2⟩ := int_go (wI X.K U W G σ Q) R1 hv hP1
  refine seqE (wI X.K U W G σ Q) R1 hP2 fun v2 s2 u2 H2 F2 e2 R2 hv2 hP3 => ?_
  obtain ⟨j, rfl, hP4⟩ := int_go (wI X.K U W G σ Q) R2 hv2 hP3
  cases e : (rngOk i && rngOk j) with
  | false => rw [e] at hP4; exact hP4.elim
  | true =>
    rw [e] at hP4
    rw [Bool.and_eq_true] at e
    have hb1 := rngOk_of e.1
    have hb2 := rngOk_of e.2
    exact ⟨i, j, rfl, ⟨by omega, by omega, by omega, by omega⟩, hP4 _ H2 F2 (Same.refl _) R2 (itOk_rng i _ (by rw [sizeLine_eq]; omega))⟩
/-- the bound on the length comes from the machine's state -/
def iEnT' (K : PySem.W.Frag) (ta : TA) : TI := fun σ H R => ta σ H fun vs H1 => ∃ a xs, vs = [.ref a] ∧ ((SqL K H1 a xs ∧ (xs.length ≤ sizeLine → R (Ite K a) H1)) ∨ (SqT K H1 a xs ∧ (xs.length ≤ sizeLine → R (ItE K a) H1)))
theorem PA.inv {es : List Expr} {t t' : TA} (h : PA X es t) (k : ∀ σ H Q, t' σ H Q → t σ H (fun vs H1 => ∀ pins s, Inv X pins σ H1 s → Q vs H1)) : PA X es t' := ⟨fun pos pins s σ H Q I hw =>
  thn (h.run pos pins s σ H _ I (k σ H Q hw)) fun us s1 ⟨vs, H1, I1, r1, q1⟩ => ⟨vs, H1, I1, r1, q1 pins s1 I1⟩⟩
theorem xi_enum {elts : List Expr} {kk : Nat} {tpos : Pos} (hg : Gl X "enumerate") (hm : X.mg "enumerate" = none) (ha : PE X a (tE X.K U W Φ ca)) (hs : starless a = true) : PI X (.Tuple elts kk tpos) (.Call (.Name "enumerate" p) [a] [] pos) (tI X.K U W Φ (.enum ca)) := by
  have hp : PA X [a] (fun σ H Q => tCons (tE X.K U W Φ ca) tNil σ H fun vs H1 => ∀ pins s, Inv X pins σ H1 s → Q vs H1) := PA.inv (pa_cons ha pa_nil (starless_eq hs)) fun _ _ _ h => h
  refine PI.imp (pi_enT hg hm hp (starless_eq hs)) fun σ H Q ⟨F, G, s, R, hP⟩ => ?_
  refine seqE (wI X.K U W G σ Q) R hP fun v s1 u H1 F1 e1 R1 hv hP1 => ?_
  replace hP1 : PostI X.K U W F1 G σ (match frz s1 v with
    | some (d, s2) => match seqOf d with
      | some xs => .ok (enumD 0 xs) s2
      | none => .bad
    | none => .bad) Q := hP1
  intro pins sh I1
  cases e : frz s1 v with
  | none => rw [e] at hP1; exact hP1.elim
  | some x =>
    obtain ⟨d, s2⟩ := x
    rw [e] at hP1
    obtain ⟨F2, e2, R2, hd, _⟩ := frz_ok R1 hv e
    cases hd with
    | lst h1 h2 =>
      have hq := SqL.of (K := X.K) (R2.fh _ _ h1)
      obtain ⟨_, _, _, hl⟩ := I1.list hq
      exact ⟨_, _, rfl, .inl ⟨hq, hP1 _ H1 F2 e2 R2 (itOk_enumL h1 h2 hl)⟩⟩
    | tup h1 h2 =>
      have hq := SqT.of (K := X.K) (R2.fh _ _ h1)
      obtain ⟨_, _, _, hl⟩ := I1.tuple hq
      exact ⟨_, _, rfl, .inr ⟨hq, hP1 _ H1 F2 e2 R2 (itOk_enumT h1 h2 hl)⟩⟩
    | _ => exact hP1.elim
end
end Fc

/-! zip, targets, comprehensions -/
namespace Fc
open PySem PySem.Spec PyProof.Rows L2
section
variable {X : Cx} {K : PySem.W.Frag} {U : Au} {W : WX} {Φ : Nat → List Ar → Out} {F F' G G' H H' : Hp} {σ σ' : L2.St} {s s' : St} {u u2 : V} {v w : Vl} {a b c : Expr} {ca cb cc : E} {pos p : Pos} {tg : Expr}

theorem held_apart (R : Rep K U F G H σ s) (hv : RepV K U F G H σ s u v) (hw : RepV K U F (held H u v G) H σ s u2 w) : ∀ p, u = .ref p → (∃ xs, v = .newL xs) ∨ (∃ xs, v = .newD xs) → u2 = .ref p → (∀ xs, w ≠ .newL xs) ∧ ∀ xs, w ≠ .newD xs := by
  intro p hu hk hu2
  subst hu hu2
  have hp : ∃ o, held H (.ref p) v G p = some o := by
    rcases hk with ⟨xs, rfl⟩ | ⟨xs, rfl⟩
    · obtain ⟨q, vs, e, h1, _⟩ := hv
      cases e
      exact ⟨_, by show (if p = p then H p else G p) = _; rw [if_pos rfl]; exact h1⟩
    · obtain ⟨q, vs, e, h1, _⟩ := hv
      cases e
      exact ⟨_, by show (if p = p then H p else G p) = _; rw [if_pos rfl]; exact h1⟩
  obtain ⟨o, hp⟩ := hp
  constructor
  · rintro xs rfl
    obtain ⟨q, vs, e, h1, h2, h3, _⟩ := hw
    cases e
    rw [hp] at h3; cases h3
  · rintro xs rfl
    obtain ⟨q, vs, e, h1, h2, h3, _⟩ := hw
    cases e
    rw [hp] at h3; cases h3
/-- two values frozen, one after another -/
theorem frz_two {d e : D} {s1 s2 : St} (R : Rep K U F G H σ s) (hv : RepV K U F G H σ s u v) (hw : RepV K U F (held H u v G) H σ s u2 w) (e1 : frz s v = some (d, s1)) (e2 : frz s1 w = some (e, s2)) : ∃ F1, Same F F1 ∧ Rep K U F1 G H σ s2 ∧ Dat F1 u d ∧ Dat F1 u2 e := by
  obtain ⟨F1, a1, R1, hd, k⟩ := frz_ok R hv e1
  have hw1 := k u2 w (hw.less (held_same R hv)) (held_apart R hv hw)
  obtain ⟨F2, a2, R2, he, _⟩ := frz_ok R1 hw1 e2
  exact ⟨F2, a1.trans a2, R2, Dat.mono a2 _ _ hd, he⟩
theorem xi_zip {elts : List Expr} {kk : Nat} {tpos : Pos} (hg : Gl X "zip") (hm : X.mg "zip" = none) (ha : PE X a (tE X.K U W Φ ca)) (hb : PE X b (tE X.K U W Φ cb)) (hs : starless a = true) (hs2 : starless b = true) :
    PI X (.Tuple elts kk tpos) (.Call (.Name "zip" p) [a, b] [] pos) (tI X.K U W Φ (.zip ca cb)) := by
  have hp : PA X [a, b] (fun σ H Q => tCons (tE X.K U W Φ ca) (tCons (tE X.K U W Φ cb) tNil) σ H fun vs H1 => ∀ pins s, Inv X pins σ H1 s → Q vs H1) :=
    PA.inv (pa_cons ha (pa_cons hb pa_nil (starless_eq hs2)) (starless_eq hs)) fun _ _ _ h => h
  refine PI.imp (RZ.pi_zipA hg hm hp (starless_eq hs) (backTo_one hs2)) fun σ H Q ⟨F, G, s, R, hP⟩ => ?_
  refine seqE (wI X.K U W G σ Q) R hP fun v s1 u H1 F1 e1 R1 hv hP1 => ?_
  refine seqE2 (wI X.K U W G σ Q) R1 hv hP1 fun v2 s2 u2 H2 F2 e2 R2 hv' hv2 hP2 => ?_
  replace hP2 : PostI X.K U W F2 G σ (match frz s2 v with
    | some (d, s3) => match frz s3 v2 with
      | some (e, s4) => match d, e with
        | .list xs, .list ys => .ok (zipD xs ys) s4
        | .tuple xs, .tuple ys => .ok (zipD xs ys) s4
        | _, _ => .bad
      | none => .bad
    | none => .bad) Q := hP2
  intro pins sh I1
  cases q1 : frz s2 v with
  | none => rw [q1] at hP2; exact hP2.elim
  | some x =>
    obtain ⟨d, s3⟩ := x
    rw [q1] at hP2
    cases q2 : frz s3 v2 with
    | none => simp only [q2] at hP2; exact hP2.elim
    | some y =>
      obtain ⟨e, s4⟩ := y
      simp only [q2] at hP2
      obtain ⟨F3, e3, R3, hd, he⟩ := frz_two R2 hv' hv2 q1 q2
      cases hd with
      | lst h1 h2 =>
        cases he with
        | lst h3 h4 =>
          have hq := SqL.of (K := X.K) (R3.fh _ _ h1)
          obtain ⟨_, _, _, hl⟩ := I1.list hq
          exact ⟨_, _, _, _, rfl, .inl ⟨hq, SqL.of (R3.fh _ _ h3), hP2 _ H2 F3 e3 R3 (itOk_zipL h1 h2 h3 h4 hl)⟩⟩
        | _ => exact hP2.elim
      | tup h1 h2 =>
        cases he with
        | tup h3 h4 =>
          have hq := SqT.of (K := X.K) (R3.fh _ _ h1)
          obtain ⟨_, _, _, hl⟩ := I1.tuple hq
          exact ⟨_, _, _, _, rfl, .inr ⟨hq, SqT.of (R3.fh _ _ h3), hP2 _ H2 F3 e3 R3 (itOk_zipT h1 h2 h3 h4 hl)⟩⟩
        | _ => exact hP2.elim
      | _ => exact hP2.elim

/-! ### names are given values -/
/-- some slots are otherwise now, none of them owned -/
theorem Rep.at (R : Rep K U F G H σ s) (hl : s'.length = σ'.length) (h : ∀ (j : Nat) (b' : B), s'[j]? = some b' → RepB K U F G H (σ'[j]?) b' ∧ (owned b' = true → s[j]? = some b' ∧ σ'[j]? = σ[j]?)) : Rep K U F G H σ' s' where
  len := hl
  fh := R.fh
  gh := R.gh
  fg := R.fg
  b := fun i b e => (h i b e).1
  inj := fun i j bi bj p hi hj oi oj si sj => by
    obtain ⟨a1, a2⟩ := (h i bi hi).2 oi
    obtain ⟨a3, a4⟩ := (h j bj hj).2 oj
    rw [a2] at si
    rw [a4] at sj
    exact R.inj i j bi bj p a1 a3 oi oj si sj
theorem setB_some {i : Nat} {b : B} (h : setB s i b = some s') : i < s.length ∧ s' = s.set i b := by
  unfold setB at h
  cases e : s[i]? with
  | none => rw [e] at h; cases h
  | some x =>
    have li := (List.getElem?_eq_some_iff.mp e).1
    rw [e] at h
    cases x <;> first | (cases h; done) | (cases h; exact ⟨li, rfl⟩)
theorem setB_dat {i : Nat} {d : D} (R : Rep K U F G H σ s) (h : setB s i (.dat d) = some s') (hd : Dat F u d) : Rep K U F G H (σ.set i (some u)) s' := by
  obtain ⟨li, rfl⟩ := setB_some h
  refine R.at (by rw [List.length_set, List.length_set]; exact R.len) fun j b' hj => ?_
  by_cases q : i = j
  · subst q
    rw [List.getElem?_set_self li] at hj
    cases hj
    rw [List.getElem?_set_self (by rw [← R.len]; exact li)]
    exact ⟨hd, fun z => nomatch z⟩
  · rw [List.getElem?_set_ne q] at hj ⊢
    exact ⟨R.b j b' hj, fun _ => ⟨hj, rfl⟩⟩
/-- several names -/
def setS (σ : L2.St) : List Nat → List V → L2.St
  | i :: is, x :: xs => setS (σ.set i (some x)) is xs
  | _, _ => σ
theorem setDs_rep : ∀ {is : List Nat} {ds : List D} {vs : List V} {s s' : St} {σ : L2.St}, Rep K U F G H σ s → DatL F vs ds → setDs s is ds = some s' → Rep K U F G H (setS σ is vs) s' ∧ vs.length = is.length
  | [], [], _, s, s', σ, R, h, e => by cases h; cases e; exact ⟨R, rfl⟩
  | [], _ :: _, _, _, _, _, _, _, e => by unfold setDs at e; cases e
  | _ :: _, [], _, _, _, _, _, _, e => by unfold setDs at e; cases e
  | i :: is, d :: ds, _, s, s', σ, R, h, e => by
    cases h with
    | cons h1 h2 =>
      unfold setDs at e
      cases q : setB s i (.dat d) with
      | none => simp [q] at e
      | some s1 =>
        simp only [q] at e
        obtain ⟨r, l⟩ := setDs_rep (setB_dat R q h1) h2 e
        exact ⟨r, by rw [List.length_cons, List.length_cons, l]⟩
/-- a loop's target -/
def tG (K : PySem.W.Frag) : Tg → TG
  | .name i => gName i
  | .names is => fun v σ H Q => ∃ a xs, v = .ref a ∧ SqT K H a xs ∧ xs.length = is.length ∧ Q (setS σ is xs) H
def setT (σ : L2.St) (u : V) (vs : List V) : Tg → L2.St
  | .name i => σ.set i (some u)
  | .names is => setS σ is vs
theorem setTg_ok {t : Tg} {d : D} {Q : L2.St → Hp → Prop} (R : Rep K U F G H σ s) (hd : Dat F u d) (e : setTg s t d = some s') (k : ∀ vs, Rep K U F G H (setT σ u vs t) s' → Q (setT σ u vs t) H) : tG K t u σ H Q := by
  cases t with
  | name i => exact k [] (setB_dat R e hd)
  | names is =>
    cases d with
    | tuple ds =>
      cases hd with
      | tup h1 h2 =>
        obtain ⟨r, l⟩ := setDs_rep R h2 e
        exact ⟨_, _, rfl, SqT.of (R.fh _ _ h1), l, k _ r⟩
    | _ => unfold setTg at e; cases e
def tgIs : Tg → List Nat
  | .name i => [i]
  | .names is => is

/-! ### own names of a comprehension -/
theorem wipe_get (σ : L2.St) : ∀ (vs : List Nat) (j : Nat), (wipe σ vs)[j]? = if j ∈ vs ∧ j < σ.length then some none else σ[j]?
  | [], j => by simp [wipe]
  | v :: vs, j => by
    unfold wipe
    by_cases q : v = j
    · subst q
      by_cases l : v < σ.length
      · rw [List.getElem?_set_self (by rw [wipe_length]; exact l), if_pos ⟨List.mem_cons_self, l⟩]
      · rw [if_neg (fun z => l z.2), List.getElem?_eq_none (by rw [List.length_set, wipe_length]; omega), List.getElem?_eq_none (by omega)]
    · rw [List.getElem?_set_ne q, wipe_get σ vs j]
      have : (j ∈ v :: vs) = (j ∈ vs) := propext ⟨fun z => (List.mem_cons.mp z).resolve_left (fun y => q y.symm), fun z => List.mem_cons_of_mem _ z⟩
      simp only [this]
theorem wipeB_get : ∀ (vs : List Nat) (s : St) (j : Nat), (wipeB s vs)[j]? = if j ∈ vs ∧ j < s.length then some .un else s[j]?
  | [], s, j => by simp [wipeB]
  | v :: vs, s, j => by
    unfold wipeB
    rw [wipeB_get vs (s.set v .un) j, List.length_set]
    by_cases h1 : j ∈ vs ∧ j < s.length
    · rw [if_pos h1, if_pos ⟨List.mem_cons_of_mem _ h1.1, h1.2⟩]
    · rw [if_neg h1]
      by_cases q : v = j
      · subst q
        by_cases l : v < s.length
        · rw [List.getElem?_set_self l, if_pos ⟨List.mem_cons_self, l⟩]
        · rw [if_neg (fun z => l z.2), List.getElem?_eq_none (by rw [List.length_set]; omega), List.getElem?_eq_none (by omega)]
      · rw [List.getElem?_set_ne q]
        rw [if_neg (fun z => h1 ⟨(List.mem_cons.mp z.1).resolve_left (fun y => q y.symm), z.2⟩)]
theorem wipeB_length : ∀ (vs : List Nat) (s : St), (wipeB s vs).length = s.length
  | [], s => rfl
  | v :: vs, s => by unfold wipeB; rw [wipeB_length vs, List.length_set]
theorem Rep.wiped (R : Rep K U F G H σ s) (own : List Nat) : Rep K U F G H (wipe σ own) (wipeB s own) := by
  refine R.at (by rw [wipeB_length, wipe_length]; exact R.len) fun j b' hj => ?_
  rw [wipeB_get] at hj
  by_cases h : j ∈ own ∧ j < s.length
  · rw [if_pos h] at hj
    cases hj
    exact ⟨trivial, fun z => nomatch z⟩
  · rw [if_neg h] at hj
    rw [wipe_get, ← R.len, if_neg h]
    exact ⟨R.b j b' hj, fun _ => ⟨hj, rfl⟩⟩
/-- behind a turn: the block's own slots are forgotten again -/
theorem Rep.wiped2 {σ0 : L2.St} (R : Rep K U F G H σ s) (own : List Nat) (h : wipe σ own = wipe σ0 own) : Rep K U F G H (wipe σ0 own) (wipeB s own) := h ▸ R.wiped own
theorem wipe_wipe (σ : L2.St) (own : List Nat) : wipe (wipe σ own) own = wipe σ own := by
  apply List.ext_getElem?
  intro j
  rw [wipe_get, wipe_get, wipe_length]
  by_cases h : j ∈ own ∧ j < σ.length
  · rw [if_pos h, if_pos h]
  · rw [if_neg h, if_neg h]
theorem wipe_set {own : List Nat} {i : Nat} {x : Option V} (h : i ∈ own) : wipe (σ.set i x) own = wipe σ own := by
  apply List.ext_getElem?
  intro j
  rw [wipe_get, wipe_get, List.length_set]
  by_cases q : j ∈ own ∧ j < σ.length
  · rw [if_pos q, if_pos q]
  · rw [if_neg q, if_neg q]
    by_cases z : i = j
    · subst z
      have l : ¬ i < σ.length := fun l => q ⟨h, l⟩
      rw [List.getElem?_eq_none (by rw [List.length_set]; omega), List.getElem?_eq_none (by omega)]
    · rw [List.getElem?_set_ne z]
theorem wipe_setS {own : List Nat} : ∀ {is : List Nat} {vs : List V} {σ : L2.St}, (∀ i ∈ is, i ∈ own) → wipe (setS σ is vs) own = wipe σ own
  | [], _, _, _ => by unfold setS; rfl
  | _ :: _, [], _, _ => by unfold setS; rfl
  | i :: is, x :: xs, σ, h => by
    unfold setS
    rw [wipe_setS fun j hj => h j (List.mem_cons_of_mem _ hj), wipe_set (h i List.mem_cons_self)]
theorem wipe_setT {own : List Nat} {t : Tg} {vs : List V} (h : ∀ i ∈ tgIs t, i ∈ own) : wipe (setT σ u vs t) own = wipe σ own := by
  cases t with
  | name i => exact wipe_set (h i List.mem_cons_self)
  | names is => exact wipe_setS h
theorem backB_get {s0 : St} : ∀ (vs : List Nat) (s : St) (j : Nat), s0.length = s.length → (backB s0 s vs)[j]? = if j ∈ vs then s0[j]? else s[j]?
  | [], s, j, _ => by simp [backB]
  | v :: vs, s, j, hl => by
    unfold backB
    rw [backB_get vs _ j (by rw [List.length_set]; exact hl)]
    by_cases h1 : j ∈ vs
    · rw [if_pos h1, if_pos (List.mem_cons_of_mem _ h1)]
    · rw [if_neg h1]
      by_cases q : v = j
      · subst q
        rw [if_pos List.mem_cons_self]
        by_cases l : v < s.length
        · rw [List.getElem?_set_self l]
          have l0 : v < s0.length := by omega
          rw [List.getElem?_eq_getElem l0]; rfl
        · rw [List.getElem?_eq_none (by rw [List.length_set]; omega), List.getElem?_eq_none (by omega)]
      · rw [List.getElem?_set_ne q, if_neg (fun z => (List.mem_cons.mp z).elim (fun y => q y.symm) h1)]
theorem backB_length {s0 : St} : ∀ (vs : List Nat) (s : St), (backB s0 s vs).length = s.length
  | [], s => rfl
  | v :: vs, s => by unfold backB; rw [backB_length vs, List.length_set]
theorem ownOk_of {own : List Nat} (h : ownOk s own = true) {i : Nat} (hi : i ∈ own) : ∃ b, s[i]? = some b ∧ owned b = false := by
  unfold ownOk at h
  have := List.all_eq_true.mp h i hi
  cases e : s[i]? with
  | none => rw [e] at this; cases this
  | some b =>
    rw [e] at this
    exact ⟨b, rfl, by simpa using this⟩
/-- the names of a comprehension are as they were -/
theorem Rep.back {s1 s5 : St} {F5 H5 : Hp} {own : List Nat} (R1 : Rep K U F G H σ s1) (e : Same F F5) (R5 : Rep K U F5 G H5 (wipe σ own) s5) (ho : ownOk s1 own = true) : Rep K U F5 G H5 σ (backB s1 s5 own) := by
  have l5 : s1.length = s5.length := by rw [R1.len, R5.len, wipe_length]
  refine R5.at (by rw [backB_length, R5.len, wipe_length]) fun j b' hj => ?_
  rw [backB_get _ _ _ l5] at hj
  by_cases h : j ∈ own
  · rw [if_pos h] at hj
    obtain ⟨b, e1, e2⟩ := ownOk_of ho h
    rw [hj] at e1; cases e1
    refine ⟨RepB.mono e (fun p _ z => by rw [e2] at z; cases z) (fun p _ z => by rw [e2] at z; cases z) (fun p o _ z => by rw [e2] at z; cases z) (R1.b j b' hj), fun z => by rw [e2] at z; cases z⟩
  · rw [if_neg h] at hj
    have w : (wipe σ own)[j]? = σ[j]? := by rw [wipe_get, if_neg (fun z => h z.1)]
    have := R5.b j b' hj
    rw [w] at this
    exact ⟨this, fun _ => ⟨hj, w.symm⟩⟩
/-- a list that nobody owns is changed -/
theorem Rep.upd {D : Addr} {o : HO} (R : Rep K U F G H σ s) (hF : F D = none) (hG : G D = none) (hf : Free σ s D) : Rep K U F G (L2.upd H D o) σ s where
  len := R.len
  fh := fun a x e => by rw [upd_ne (fun z => by subst z; rw [hF] at e; cases e)]; exact R.fh a x e
  gh := fun a x e => by rw [upd_ne (fun z => by subst z; rw [hG] at e; cases e)]; exact R.gh a x e
  fg := R.fg
  b := fun i b e => RepB.mono (Same.refl _) (fun _ _ _ h => h) (fun _ _ _ h => h) (fun p x hq ho h => by rw [upd_ne (fun z => by subst z; exact hf i b e ho hq)]; exact h) (R.b i b e)
  inj := R.inj
end
end Fc

/-! comprehensions -/
namespace Fc
open PySem PySem.Spec PyProof.Rows L2
/-- no exception leaves -/
abbrev W0 : WX := fun _ _ _ _ => False
section
variable {X : Cx} {K : PySem.W.Frag} {U : Au} {W : WX} {Φ : Nat → List Ar → Out} {F F' G G' H H' : Hp} {σ σ' : L2.St} {s s' : St} {u u2 : V} {v w : Vl} {a b c : Expr} {ca cb cc : E} {pos p : Pos} {tg : Expr}

theorem loopC_cons {turn : D → St → R (Option D)} {x : D} {xs acc ds : List D} {s s5 : St} (h : loopC turn (x :: xs) acc s = .ok ds s5) : (∃ d s1, turn x s = .ok (some d) s1 ∧ loopC turn xs (acc ++ [d]) s1 = .ok ds s5) ∨ ∃ s1, turn x s = .ok none s1 ∧ loopC turn xs acc s1 = .ok ds s5 := by
  unfold loopC at h
  cases e : turn x s with
  | ok r s1 =>
    rw [e] at h
    cases r with
    | some d => exact .inl ⟨d, s1, rfl, h⟩
    | none => exact .inr ⟨s1, rfl, h⟩
  | exc c s1 => rw [e] at h; cases h
  | bad => rw [e] at h; cases h

/-- what one turn of a comprehension does -/
def TurnOk (K : PySem.W.Frag) (U : Au) (σ : L2.St) (own : List Nat) (turn : D → St → R (Option D)) (g : TG) (tt : TT) (te : TE) : Prop :=
  ∀ (F2 G2 H2 : Hp) (s2 : St) (x : V) (d : D) (r : Option D) (s3 : St) (K1 : V → Hp → Prop) (K0 : Hp → Prop), Rep K U F2 G2 H2 (wipe σ own) s2 → Dat F2 x d → turn d s2 = .ok r s3 →
    (∀ d' y H4 F4, r = some d' → Same F2 F4 → Rep K U F4 G2 H4 (wipe σ own) s3 → Dat F4 y d' → K1 y H4) →
    (∀ H4 F4, r = none → Same F2 F4 → Rep K U F4 G2 H4 (wipe σ own) s3 → K0 H4) →
    g x (wipe σ own) H2 fun σ2 H2' => wipe σ2 own = wipe σ own ∧ tt σ2 H2' fun b H3 => if b = true then te σ2 H3 K1 else K0 H3
def heldD (G : Hp) (D : Addr) (vs : List V) : Hp := fun a => if a = D then some (.lst vs) else G a
theorem heldD_rep {D : Addr} {vs : List V} (R : Rep K U F G H σ s) (hD : H D = some (.lst vs)) (hF : F D = none) (hG : G D = none) (hf : Free σ s D) : Rep K U F (heldD G D vs) H σ s := by
  have e : heldD G D vs = fun a => if a = D then H D else G a := by funext a; unfold heldD; rw [hD]
  rw [e]
  exact heldAt_rep R hD hF hG hf
theorem heldD_sub {D : Addr} {vs : List V} (hG : G D = none) : Same G (heldD G D vs) := fun a o e => by
  unfold heldD
  rw [if_neg (fun z => by subst z; rw [hG] at e; cases e)]; exact e
theorem heldD_at {D : Addr} {vs : List V} : heldD G D vs D = some (.lst vs) := by unfold heldD; rw [if_pos rfl]
theorem free_of_held {D : Addr} {o : HO} (R : Rep K U F G' H σ s) (h : G' D = some o) : Free σ s D ∧ F D = none ∧ H D = some o := by
  refine ⟨fun i b hb ho z => ?_, ?_, R.gh D o h⟩
  · obtain ⟨p, o', e1, e2, e3, e4⟩ := R.own hb ho
    rw [z] at e1; cases e1
    rw [h] at e4; cases e4
  · cases q : F D with
    | none => rfl
    | some x => have := R.fg D x q; rw [h] at this; cases this
/-- what the loop of a comprehension keeps -/
structure LcInv (K : PySem.W.Frag) (U : Au) (F1 G : Hp) (σ : L2.St) (own : List Nat) (turn : D → St → R (Option D)) (xs : List D) (ds : List D) (s5 : St) (D : Addr) (i : Nat) (H : Hp) : Prop where
  ex : ∃ Fi si acc vs, loopC turn (xs.drop i) acc si = .ok ds s5 ∧ acc.length ≤ i ∧ Same F1 Fi ∧ Rep K U Fi G H (wipe σ own) si ∧ H D = some (.lst vs) ∧ DatL Fi vs acc ∧ Fi D = none ∧ G D = none ∧ Free (wipe σ own) si D
theorem lc_go {J : L2.It} {xs ds : List D} {s1 s5 : St} {own : List Nat} {turn : D → St → R (Option D)} {g : TG} {tt : TT} {te : TE} {Q : VK}
    (R1 : Rep K U F G H σ s1) (hJ : ItOk F J xs) (ho : ownOk s1 own = true) (hl : loopC turn xs [] (wipeB s1 own) = .ok ds s5) (ht : TurnOk K U σ own turn g tt te) (hP : PostE K U W F G σ (.ok (.newL ds) (backB s1 s5 own)) Q) :
    ∀ D, H D = none → ∃ W : Nat → Nat → Hp → Prop, (∃ m, W 0 m (upd H D (.lst []))) ∧ ∀ i m H, W i m H →
      (J.stop i H ∧ Q (.ref D) H) ∨ (J.go i H ∧ ∃ Nx : Hp → Prop, (∀ H', Nx H' → ∃ m', m' < m ∧ W (i + 1) m' H') ∧ ∀ x H', J.yld i H x H' → g x (wipe σ own) H' fun σ2 H2 => wipe σ2 own = wipe σ own ∧ tt σ2 H2 fun b H3 =>
        if b = true then te σ2 H3 fun y H4 => ∃ acc, H4 D = some (.lst acc) ∧ acc.length < sizeLine ∧ Nx (upd H4 D (.lst (acc ++ [y]))) else Nx H3) := by
  intro D hD
  refine ⟨fun i m H => m = xs.length - i ∧ i ≤ xs.length ∧ LcInv K U F G σ own turn xs ds s5 D i H, ⟨xs.length, by omega, Nat.zero_le _, ⟨F, wipeB s1 own, [], [], hl, Nat.le_refl _, Same.refl _, (R1.grow (Grow.laid R1.fh hD)).wiped own, upd_same, .nil, R1.fh.free hD, R1.gh.free hD, ?_⟩⟩, ?_⟩
  · intro i b hb hob z
    obtain ⟨p, o, e1, e2, _, _⟩ := (R1.wiped own).own hb hob
    rw [z] at e1; cases e1
    rw [hD] at e2; cases e2
  rintro i m H2 ⟨rfl, hi, ⟨Fi, si, acc, vs, hloop, hacc, eF, Ri, hDi, hdl, hFD, hGD, hfr⟩⟩
  by_cases hlt : i < xs.length
  · refine .inr ⟨hJ.go i H2 (eF.trans Ri.fh) hlt, fun H' => LcInv K U F G σ own turn xs ds s5 D (i + 1) H', fun H' h' => ⟨_, by omega, rfl, by omega, h'⟩, fun x H' y => ?_⟩
    have hx : xs[i]? = some xs[i] := List.getElem?_eq_getElem hlt
    obtain ⟨F2, g2, hdx⟩ := hJ.yld i H2 Fi x H' xs[i] eF Ri.fh hx y
    have R2 := Ri.grow g2
    have hD2 : H' D = some (.lst vs) := g2.h _ _ hDi
    have hF2 : F2 D = none := g2.keepN hDi hFD
    have R3 := heldD_rep R2 hD2 hF2 hGD hfr
    have hdrop : xs.drop i = xs[i] :: xs.drop (i + 1) := List.drop_eq_getElem_cons hlt
    rw [hdrop] at hloop
    have hsize : vs.length < sizeLine := by
      have := hJ.len
      rw [hdl.length]; omega
    have eF2 : Same F F2 := eF.trans g2.f
    have hdl2 : DatL F2 vs acc := DatL.mono g2.f _ _ hdl
    rcases loopC_cons hloop with ⟨d, s4, t1, t2⟩ | ⟨s4, t1, t2⟩
    · refine ht F2 _ H' si x xs[i] (some d) s4 _ _ R3 hdx t1 (fun d' y' H4 F4 e e4 R4 hd4 => ?_) (fun H4 F4 e => nomatch e)
      cases e
      obtain ⟨f1, f2, f3⟩ := free_of_held R4 heldD_at
      refine ⟨vs, f3, hsize, ⟨F4, s4, acc ++ [d], vs ++ [y'], t2, by rw [List.length_append]; exact Nat.succ_le_succ hacc, eF2.trans e4, ?_, upd_same, (DatL.mono e4 _ _ hdl2).append (.one hd4), f2, hGD, f1⟩⟩
      exact (R4.less (heldD_sub hGD)).upd f2 hGD f1
    · refine ht F2 _ H' si x xs[i] none s4 _ _ R3 hdx t1 (fun d' y' H4 F4 e => nomatch e) (fun H4 F4 e e4 R4 => ?_)
      obtain ⟨f1, f2, f3⟩ := free_of_held R4 heldD_at
      exact ⟨F4, s4, acc, vs, t2, Nat.le_succ_of_le hacc, eF2.trans e4, R4.less (heldD_sub hGD), f3, DatL.mono e4 _ _ hdl2, f2, hGD, f1⟩
  · have ei : i = xs.length := by omega
    subst ei
    rw [List.drop_length] at hloop
    unfold loopC at hloop
    cases hloop
    refine .inl ⟨hJ.stop _ H2 (eF.trans Ri.fh) (Nat.le_refl _), ?_⟩
    have R6 := Rep.back R1 eF Ri ho
    refine hP _ H2 Fi eF R6 ⟨D, vs, rfl, hDi, hFD, hGD, hdl, fun j b hb hob z => ?_⟩
    have l5 : s1.length = s5.length := by rw [R1.len, Ri.len, wipe_length]
    rw [backB_get _ _ _ l5] at hb
    by_cases h : j ∈ own
    · rw [if_pos h] at hb
      obtain ⟨b2, e1, e2⟩ := ownOk_of ho h
      rw [hb] at e1; cases e1
      rw [e2] at hob; cases hob
    · rw [if_neg h] at hb
      refine hfr j b hb hob ?_
      rw [wipe_get, if_neg (fun z => h z.1)]
      exact z

theorem bind_ok {α β : Type} {m : R α} {f : α → St → R β} {b : β} {s : St} (h : m.bind f = .ok b s) : ∃ a s1, m = .ok a s1 ∧ f a s1 = .ok b s := by
  cases m with
  | ok a s1 => exact ⟨a, s1, rfl, h⟩
  | exc c s1 => cases h
  | bad => cases h
def turnC (Φ : Nat → List Ar → Out) (e : E) (own : List Nat) (t : Tg) : D → St → R (Option D) := fun x s => match setTg s t x with
  | some s2 => (dE Φ e s2).bind fun v s3 => match frz s3 v with
    | some (d, s4) => .ok (some d) (wipeB s4 own)
    | none => .bad
  | none => .bad
def turnIf (Φ : Nat → List Ar → Out) (e : E) (own : List Nat) (t : Tg) (c : E) : D → St → R (Option D) := fun x s => match setTg s t x with
  | some s2 => (dE Φ c s2).bind fun v s3 => (tru v s3).bind fun k s4 => match k with
    | true => (dE Φ e s4).bind fun v s5 => match frz s5 v with
      | some (d, s6) => .ok (some d) (wipeB s6 own)
      | none => .bad
    | false => .ok none (wipeB s4 own)
  | none => .bad
theorem turnC_ok {own : List Nat} {t : Tg} (ht : ∀ i ∈ tgIs t, i ∈ own) : TurnOk K U σ own (turnC Φ ca own t) (tG K t) tYes (tE K U W0 Φ ca) := by
  intro F2 G2 H2 s2 x d r s3 K1 K0 R2 hd hr k1 k0
  unfold turnC at hr
  cases e : setTg s2 t d with
  | none => rw [e] at hr; cases hr
  | some sa =>
    rw [e] at hr
    refine setTg_ok R2 hd e fun vs Ra => ?_
    have hw := wipe_setT (σ := wipe σ own) (u := x) (vs := vs) ht
    rw [wipe_wipe] at hw
    refine ⟨hw, ?_⟩
    show (if true = true then tE K U W0 Φ ca _ H2 K1 else K0 H2)
    rw [if_pos rfl]
    refine ⟨F2, G2, sa, Ra, ?_⟩
    obtain ⟨v, sb, e1, e2⟩ := bind_ok hr
    rw [e1]
    intro u H4 F4 a b c
    cases e3 : frz sb v with
    | none => rw [e3] at e2; cases e2
    | some y =>
      obtain ⟨d', sc⟩ := y
      rw [e3] at e2
      cases e2
      obtain ⟨F5, a5, R5, hd5, _⟩ := frz_ok b c e3
      exact k1 d' u H4 F5 rfl (a.trans a5) (R5.wiped2 own hw) hd5
theorem turnIf_ok {own : List Nat} {t : Tg} (ht : ∀ i ∈ tgIs t, i ∈ own) : TurnOk K U σ own (turnIf Φ ca own t cb) (tG K t) (tT K U W0 Φ cb) (tE K U W0 Φ ca) := by
  intro F2 G2 H2 s2 x d r s3 K1 K0 R2 hd hr k1 k0
  unfold turnIf at hr
  cases e : setTg s2 t d with
  | none => rw [e] at hr; cases hr
  | some sa =>
    rw [e] at hr
    refine setTg_ok R2 hd e fun vs Ra => ?_
    have hw := wipe_setT (σ := wipe σ own) (u := x) (vs := vs) ht
    rw [wipe_wipe] at hw
    refine ⟨hw, F2, G2, sa, Ra, ?_⟩
    obtain ⟨v, sb, e1, e2⟩ := bind_ok hr
    obtain ⟨k, sc, e3, e4⟩ := bind_ok e2
    rw [e1]
    show PostT K U W0 F2 G2 _ (tru v sb) _
    rw [e3]
    intro H4 F4 a b
    cases k with
    | false =>
      rw [if_neg Bool.false_ne_true]
      cases e4
      exact k0 H4 F4 rfl a (b.wiped2 own hw)
    | true =>
      rw [if_pos rfl]
      refine ⟨F4, G2, sc, b, ?_⟩
      obtain ⟨v2, sd, e5, e6⟩ := bind_ok e4
      rw [e5]
      intro u H5 F5 a5 b5 c5
      cases e7 : frz sd v2 with
      | none => rw [e7] at e6; cases e6
      | some y =>
        obtain ⟨d', se⟩ := y
        rw [e7] at e6
        cases e6
        obtain ⟨F6, a6, R6, hd6, _⟩ := frz_ok b5 c5 e7
        exact k1 d' u H5 F6 rfl (a.trans (a5.trans a6)) (R6.wiped2 own hw) hd6

theorem lc_read {wi : TI} {tt : TT} {te : TE} {g : TG} {own : List Nat} {it : It} {turn : D → St → R (Option D)} {Q : VK} (ht : TurnOk K U σ own turn g tt te) (R0 : Rep K U F G H σ s)
    (hP : PostE K U W F G σ ((dIt Φ it s).bind fun xs s1 => match ownOk s1 own with
      | true => match loopC turn xs [] (wipeB s1 own) with
        | .ok ds s5 => .ok (.newL ds) (backB s1 s5 own)
        | _ => .bad
      | false => .bad) Q) : tLc (tI K U W Φ it) g tt te own σ H Q := by
  refine ⟨F, G, s, R0, ?_⟩
  cases e : dIt Φ it s with
  | bad => rw [e] at hP; exact hP
  | exc c s1 => rw [e] at hP; exact hP
  | ok xs s1 =>
    rw [e] at hP
    intro J H1 F1 a b hJ
    have hP : PostE K U W F1 G σ (match ownOk s1 own with
      | true => match loopC turn xs [] (wipeB s1 own) with
        | .ok ds s5 => .ok (.newL ds) (backB s1 s5 own)
        | _ => .bad
      | false => .bad) Q := PostE.mono hP a
    cases ho : ownOk s1 own with
    | false => rw [ho] at hP; exact hP.elim
    | true =>
      rw [ho] at hP
      cases hl : loopC turn xs [] (wipeB s1 own) with
      | bad => simp only [hl] at hP; exact hP.elim
      | exc c s5 => simp only [hl] at hP; exact hP.elim
      | ok ds s5 =>
        simp only [hl] at hP
        exact lc_go b hJ ho hl ht hP
end
section
variable {X : Cx} {U : Au} {W : WX} {Φ : Nat → List Ar → Out} {elt tg iter : Expr} {scope : Scope} {own : List (Str × Nat)} {pos : Pos} {t : Tg} {it : It} {ca cb : E} {c : Expr}
theorem xe_comp (hc : X.calm = true) (hN : X.N.Nodup) (hi : PI X tg iter (tI X.K U W Φ it)) (ok : BlkOk X.N X.env.scope scope own) (ht : ∀ i ∈ tgIs t, i ∈ own.map (·.2))
    (hg : ∀ (s : Shared) (H : Hp) (C : Addr) (cl : List (Str × Addr)) (fp : List Addr), PG (X.blk s H scope (compEnvC scope cl C X.env) fp) tg (tG X.K t))
    (he : ∀ (s : Shared) (H : Hp) (C : Addr) (cl : List (Str × Addr)) (fp : List Addr), PE (X.blk s H scope (compEnvC scope cl C X.env) fp) elt (tE X.K U W0 Φ ca)) (hs : ∀ x, foldedSetIterable iter X.env x = pure x) :
    PE X (.ListComp elt [⟨tg, iter, [], 0⟩] scope pos) (tE X.K U W Φ (.comp ca (own.map (·.2)) t it)) :=
  PE.imp (pe_lc hc hN hi ok hg (fun _ _ _ _ _ => pts_nil) he hs) fun σ H Q ⟨F, G, s, R, hP⟩ => lc_read (wi := tI X.K U W Φ it) (turnC_ok (Φ := Φ) (ca := ca) ht) R hP
theorem xe_compIf (hc : X.calm = true) (hN : X.N.Nodup) (hi : PI X tg iter (tI X.K U W Φ it)) (ok : BlkOk X.N X.env.scope scope own) (ht : ∀ i ∈ tgIs t, i ∈ own.map (·.2))
    (hg : ∀ (s : Shared) (H : Hp) (C : Addr) (cl : List (Str × Addr)) (fp : List Addr), PG (X.blk s H scope (compEnvC scope cl C X.env) fp) tg (tG X.K t))
    (hcc : ∀ (s : Shared) (H : Hp) (C : Addr) (cl : List (Str × Addr)) (fp : List Addr), PT (X.blk s H scope (compEnvC scope cl C X.env) fp) c (tT X.K U W0 Φ cb))
    (he : ∀ (s : Shared) (H : Hp) (C : Addr) (cl : List (Str × Addr)) (fp : List Addr), PE (X.blk s H scope (compEnvC scope cl C X.env) fp) elt (tE X.K U W0 Φ ca)) (hs : ∀ x, foldedSetIterable iter X.env x = pure x) :
    PE X (.ListComp elt [⟨tg, iter, [c], 0⟩] scope pos) (tE X.K U W Φ (.compIf ca (own.map (·.2)) t it cb)) :=
  PE.imp (pe_lc hc hN hi ok hg (fun s H C cl fp => pts_one (hcc s H C cl fp)) he hs) fun σ H Q ⟨F, G, s, R, hP⟩ => lc_read (wi := tI X.K U W Φ it) (turnIf_ok (Φ := Φ) (ca := ca) (cb := cb) ht) R hP
end
end Fc

/-! defs' promises where no repr is under way -/
namespace Fc
open PySem PySem.Spec PyProof.Rows L2
structure FnG (P : Program) (w : World) (K : PySem.W.Frag) (mg : Str → Option Value) (base : Heap) (CX : CXT) (k : Nat) (f : Addr) (fd : FuncData) (ps : List Str) (sp : Sp) : Prop where
  len : ∀ vs H Q E, sp vs H Q E → vs.length = ps.length
  run : ∀ {A : Around} {outer : List Env} {s : Shared} {H : Hp} {args : Args} {us : List Value} {vs : List V} {Q : VK} {E : XK}, Room k A → A.guards = some [] → Env0 P w K mg base A outer s H → BindsTo s fd args (ps.zip us) → Vals vs us → sp vs H Q E →
    codeAny (model P w) A (.call (.ref f) args) (CR CX outer P w H s Q E) s
section
variable {P : Program} {w : World} {K : PySem.W.Frag} {mg : Str → Option Value} {base : Heap} {CX : CXT} {k : Nat} {f : Addr} {fd : FuncData} {ps N : List Str} {sp sp' : Sp}
theorem FnG.imp (F : FnG P w K mg base CX k f fd ps sp) (h : ∀ vs H Q E, sp' vs H Q E → sp vs H Q E) : FnG P w K mg base CX k f fd ps sp' :=
  ⟨fun vs H Q E a => F.len vs H Q E (h _ _ _ _ a), fun r g e b v a => F.run r g e b v (h _ _ _ _ a)⟩
theorem fnG_of {x qual : Str} {params : Arguments} {body : List Stmt} {scope : Scope} {dvs : List V} {kws : List (Str × V)} (F : FunD K x qual params body scope dvs kws f fd) (S : FnScope N ps scope) (len : ∀ vs H Q E, sp vs H Q E → vs.length = ps.length)
    (walk : ∀ (cdv : Value) (A : Around) (outer : List Env) (s : Shared) (H : Hp) (vs : List V) (Q : VK) (E : XK), Room k (A.deeper (envOfC qual scope s.heap.objs.size f cdv)) → (A.deeper (envOfC qual scope s.heap.objs.size f cdv)).guards = some [] → sp vs H Q E →
      ∃ t, PSs (cxOf CX P w K mg base N qual scope f cdv A outer s H E) body t ∧ t { nx := fun _ H' => Q .non H', rt := Q } (L2.start N vs) H) : FnG P w K mg base CX (k + 1) f fd ps sp := by
  obtain ⟨oc, od, dV, kV, doc, pm, an, cdv, ct, osl, rfl, look, code, _, _⟩ := F.ex
  refine ⟨len, fun {A outer s H args us vs Q E} room gd env bind rel a => ?_⟩
  have here : K.In s.heap := env.mod.kin.keeps fun b o e => (env.bs b o e).1
  have noLim : s.heap.NoLimit := env.mod.nolimit.keeps fun b o e => (env.bs b o e).1
  obtain ⟨t, ht, hq⟩ := walk cdv A outer s H vs Q E (room.deeper _) gd a
  apply codeAny_call_function room.depth (here _ _ look) rfl S.co S.gen rfl (PySem.W.codeRec_of here code)
  apply bind
  refine wpAny_newFunctionEnv_cells S.kind (fun y hy => ?_) fun e he s1 inC => ?_
  · obtain ⟨n, v⟩ := y
    cases S.par n (List.of_mem_zip hy).1 with
    | inl q => exact .inl q
    | inr q => exact .inr ⟨q, PySem.W.cellsFrom_some _ _ _ (.inl q)⟩
  · subst he
    refine ⟨noLim.keeps inC.toInCall.keep, codeAny_func ?_⟩
    refine wpAny_mono (ht.run [] s1 (L2.start N vs) H _ (inv_start S room.hd env (len _ _ _ _ a) rel inC) hq) (fun fl s' hs => ?_) fun _ _ z => z
    cases fl with
    | ret u => obtain ⟨v, σ', H', J, rv, q⟩ := hs; exact ⟨v, H', J.os, J.bare, J.base, J.hok, rv, q⟩
    | next => obtain ⟨σ', H', J, q⟩ := hs; exact ⟨V.non, H', J.os, J.bare, J.base, J.hok, rfl, q⟩
    | brk => obtain ⟨_, _, _, q⟩ := hs; exact q.elim
    | cont => obtain ⟨_, _, _, q⟩ := hs; exact q.elim
end
section
variable {X : Cx} {CX : CXT} {k : Nat} {f : Addr} {fd : FuncData} {ps : List Str} {sp : Sp} {E : L2.St → XK} {x : Str} {p pos : Pos} {e : Expr} {es : List Expr} {t : TA}
theorem runG {pins : List (Addr × Obj)} {σ : L2.St} {H : Hp} {s : Shared} {Q : VK} {us : List Value} {vs : List V} (F : FnG X.prog X.w X.K X.mg X.base CX k f fd ps sp) (hr : Room k X.A) (gd : X.A.guards = some []) (hb : Binds X.K fd ps []) (hx : PassesAt CX X σ (E σ))
    (I : Inv X pins σ H s) (r : Vals vs us) (h : sp vs H Q (E σ)) : wpAny (model X.prog X.w) X.A (call (.ref f) us) (EP X pins σ Q) X.xe s := by
  have bs := hb s us I.kIn (by rw [List.append_nil, ← r.length]; exact F.len _ _ _ _ h)
  rw [List.append_nil] at bs
  refine wpAny_call (codeAny_mono (F.run (Q := Q) (E := E σ) hr gd I.env0 bs r h) fun res s' hq => ?_)
  match res, hq with
  | .error e, hq => exact hx pins H s e s' I hq
  | .ok (.ret u), hq => exact I.after hq
  | .ok .next, hq => exact False.elim hq
  | .ok .brk, hq => exact False.elim hq
  | .ok .cont, hq => exact False.elim hq
theorem pe_callG (F : FnG X.prog X.w X.K X.mg X.base CX k f fd ps sp) (hr : Room k X.A) (gd : X.A.guards = some []) (hg : Gl X x) (hm : X.mg x = some (.ref f)) (hk : PySem.W.keepIn X.K (.ref f) = true) (hb : Binds X.K fd ps []) (hx : ∀ σ, PassesAt CX X σ (E σ))
    (ha : PA X (e :: es) t) (hdb : (x == ("__debug__" : Str)) = false) (he : starEach (e :: es) X.env = (false, eval e X.env) :: starEach es X.env) (hpl : (backTo pos (starEach es X.env)).any (·.1) = false) :
    PE X (.Call (.Name x p) (e :: es) [] pos) (tCallS sp E t) := by
  refine ⟨fun pins s σ H Q I h => wpAny_Call_Name_kw (ld_glob I hg hm ?_ hdb)⟩
  apply PySem.W.callWith_K (h₀ := X.base) I.ok.mod.kin hk ?_ he hpl
  exact thn (ha.run pos pins s σ H _ I h) fun us s1 ⟨vs, H1, I1, r, q⟩ => ⟨I1.kIn, runG F hr gd hb (hx σ) I1 r q⟩
end
/-! ### the law's call -/
section
variable {P : Program} {w : World} {K : PySem.W.Frag} {mg mb : Str → Option Value} {CX : CXT} {k : Nat} {fa a : Addr} {fd : FuncData} {x : Str} {s₁ : Shared} {vs : List Value} {ns : List Int}
/-- the answer that a law wants -/
abbrev LawEnd (s₁ : Shared) (r : Result) (s' : Shared) : Prop := r = .ok (.ret (.bool true)) ∧ OldK s₁.heap s'.heap ∧ s'.os = s₁.os ∧ AllBare s'.gens
/-- from an abstract heap that tracks nothing but the script -/
theorem law_core {sp : Sp} (KX : K.In s₁.heap) (hns : s₁.heap.Ns mainGlobals mg) (hb : s₁.heap.Ns builtinsNs mb) (hbb : ∀ x : Str, x ≠ "__name__" → mb x = bootBuiltins x) (hlim : s₁.heap.NoLimit) (hg : s₁.gens = #[])
    (ha : s₁.heap.get? a = some { cls := .type "list", data := .seq vs.toArray }) (hr : Room k callerA) (F : ∀ base : Heap, K.In base → base.Ns mainGlobals mg → FnG P w K mg base CX k fa fd [x] sp) (hbind : ∀ (s : Shared) (u : Value), BindsTo s fd ⟨[u], []⟩ [(x, u)])
    (hCX : ∀ H e s', CX [] H s₁ (fun _ _ _ => False) e s' → False) (H : Hp) (hO : Only H) (hsp : sp [.ref a] H (fun v _ => v = .bl true) fun _ _ _ => False) (hok : HOk P w H s₁.heap) (hA : ∀ b, H b ≠ none → b = a) (hK : H a ≠ none → K.lookup a = none) :
    codeAny (model P w) callerA (.call (.ref fa) ⟨[.ref a], []⟩) (LawEnd s₁) s₁ := by
  have free : ∀ b, b ≠ a → H b = none := fun b hb => Classical.byContradiction fun z => hb (hA b z)
  have dictFree : ∀ {b : Addr} {m : Str → Option Value}, s₁.heap.Ns b m → (hidT s₁.heap H).Ns b m := fun {b m} ⟨o, es, ep, e, d, r⟩ => by
    refine ⟨o, es, ep, hidT_get e (free b fun z => ?_), d, r⟩
    subst z
    rw [ha] at e
    cases e
    exact Data.noConfusion (show Data.seq vs.toArray _ = Data.dict es ep from d)
  have KB : K.In (hidT s₁.heap H) := fun b o e => hidT_get (KX b o e) (Classical.byContradiction fun z => by
    have hb := hA b z
    subst hb
    rw [hK z] at e
    cases e)
  have env : Env0 P w K mg (hidT s₁.heap H) callerA [] s₁ H := ⟨rfl, ⟨KB, dictFree hns, ⟨mb, dictFree hb, hbb⟩, by obtain ⟨mc, h1, h2⟩ := hlim; exact ⟨mc, dictFree h1, h2⟩⟩, fun b o e => of_hidT e, Nat.le_of_eq (hidT_size _ _), trivial, fun b hb => (List.not_mem_nil hb).elim, hok, .of_eq hg⟩
  refine codeAny_mono ((F _ KB (dictFree hns)).run (us := [.ref a]) (vs := [.ref a]) hr rfl env (hbind s₁ (.ref a)) (.cons rfl .nil) hsp) fun res s' h => ?_
  match res, h with
  | .error e, h => exact (hCX H e s' h).elim
  | .ok .next, h => exact False.elim h
  | .ok .brk, h => exact False.elim h
  | .ok .cont, h => exact False.elim h
  | .ok (.ret u), ⟨v, H', os, bare, un, hok', rv, hv⟩ =>
    cases hv
    cases rv
    refine ⟨rfl, OldK.of_keep fun b o e => ?_, os, bare⟩
    rcases hO b with q | ⟨ob, xs, q⟩
    · exact un.keep b o e q (fun z => (List.not_mem_nil z).elim) (fun z => (List.not_mem_nil z).elim)
    · have e1 := (hok b _ q).1
      rw [e] at e1
      cases e1
      exact (hok' b _ (un.frzs b _ _ q)).1
theorem law_callG {sp : Sp} (KX : K.In s₁.heap) (hns : s₁.heap.Ns mainGlobals mg) (hb : s₁.heap.Ns builtinsNs mb) (hbb : ∀ x : Str, x ≠ "__name__" → mb x = bootBuiltins x) (hlim : s₁.heap.NoLimit) (hg : s₁.gens = #[])
    (ha : s₁.heap.get? a = some { cls := .type "list", data := .seq vs.toArray }) (hi : IntsAre vs ns) (hl : ns.length ≤ sizeLine) (hr : Room k callerA) (F : ∀ base : Heap, K.In base → base.Ns mainGlobals mg → FnG P w K mg base CX k fa fd [x] sp) (hbind : ∀ (s : Shared) (u : Value), BindsTo s fd ⟨[u], []⟩ [(x, u)])
    (hsp : ∀ H : Hp, SqL K H a (ns.map V.int) → sp [.ref a] H (fun v _ => v = .bl true) fun _ _ _ => False) (hCX : ∀ H e s', CX [] H s₁ (fun _ _ _ => False) e s' → False) : codeAny (model P w) callerA (.call (.ref fa) ⟨[.ref a], []⟩) (LawEnd s₁) s₁ := by
  cases hk : K.lookup a with
  | some o =>
    have e := KX a o hk
    rw [ha] at e
    cases e
    refine law_core KX hns hb hbb hlim hg ha hr F hbind hCX (fun _ => none) (fun _ => .inl rfl) (hsp _ (.inr ⟨_, vs.toArray, _, hk, rfl, rfl, rfl, ?_, ?_⟩)) (fun b u z => by cases z) (fun b z => absurd rfl z) fun z => absurd rfl z
    · rw [List.size_toArray, hi.length]; exact hl
    · simpa using vals_ints hi
  | none =>
    refine law_core KX hns hb hbb hlim hg ha hr F hbind hCX (upd (fun _ => none) a (.frz { cls := .type "list", data := .seq vs.toArray } (.lst (ns.map V.int)))) (fun b => ?_) (hsp _ (.inl (.inr ⟨_, upd_same⟩))) (fun b u z => ?_) (fun b z => ?_) fun _ => hk
    · by_cases q : b = a
      · subst q; exact .inr ⟨_, _, upd_same⟩
      · exact .inl (upd_ne q)
    · by_cases q : b = a
      · subst q
        rw [upd_same] at z
        cases z
        exact ⟨ha, by rw [List.length_map]; exact hl, vs, _, vals_ints hi, ha⟩
      · rw [upd_ne q] at z; cases z
    · by_cases q : b = a
      · exact q
      · exact absurd (upd_ne q) z
end
theorem walkG {l : PySem.W.OpenLaw} {n k : Nat} {q : Program} {loose : List Str} {XP : (Str → Option Value) → Heap → Prop} {YP : World → Heap → Prop} {d : DefRec} {CX : CXT} {x : Str} (hn : l.most = some n) (hn2 : n ≤ sizeLine) (hdf : d.params.defaults = []) (hr : Room k callerA)
    (F : ∀ (w : World) (mg : Str → Option Value) (fa : Addr) (h : Heap), YP w h → h.Ns mainGlobals mg → mg d.name = some (.ref fa) → ∃ (K : PySem.W.Frag) (fd : FuncData) (sp : Sp), K.In h ∧ (∀ (s : Shared) (u : Value), BindsTo s fd ⟨[u], []⟩ [(x, u)]) ∧
      (∀ (H : Hp) (a : Addr) (ns : List Int), ns.length ≤ n → SqL K H a (ns.map V.int) → sp [.ref a] H (fun v _ => v = .bl true) fun _ _ _ => False) ∧ ∀ base : Heap, K.In base → base.Ns mainGlobals mg → FnG l.prog w K mg base CX k fa fd [x] sp)
    (hCX : ∀ (H : Hp) (s : Shared) (e : Value) (s' : Shared), CX [] H s (fun _ _ _ => False) e s' → False) : PySem.W.WalkO q loose XP YP l.row.toRowW d [] (fun f vs => PySem.call f vs) := by
  refine Att.attach_call hn hdf fun w s0 s1 mg mb fa o pm cd doc a vs ns G Y ho hd hcd hmg hobj hints hlen hg => ?_
  obtain ⟨K, fd, sp, KX, hb, hsp, hF⟩ := F w mg fa _ Y G.T.g hmg
  exact law_callG KX G.T.g G.T.b G.T.builtins G.T.nolimit hg hobj hints (Nat.le_trans hlen hn2) hr hF hb (fun H hS => hsp H a ns hlen hS) fun H e s' => hCX H s1 e s'
end Fc

/-! calls of the program's own defs -/
namespace Fc
open PySem PySem.Spec PyProof.Rows L2

/-- the heap behind a call: io the list that the callee may change -/
structure CGrow (F H F' H' : Hp) (io : Option Addr) (xs : List D) : Prop where
  f : Same F F'
  fh : Same F' H'
  new : ∀ a o, F' a = some o → F a = none → H a = none
  keep : ∀ a o, H a = some o → io ≠ some a → H' a = some o
  io : ∀ p, io = some p → ∃ vs, H' p = some (.lst vs) ∧ DatL F' vs xs
def AVs (K : PySem.W.Frag) (U : Au) (F H : Hp) (vs : List V) : List Ar → Option Addr → Prop
  | .io xs :: as, some p => ∃ ws vs', vs = .ref p :: vs' ∧ H p = some (.lst ws) ∧ F p = none ∧ DatL F ws xs ∧ Paired (ArV K U F) vs' as
  | .io _ :: _, none => False
  | as, none => Paired (ArV K U F) vs as
  | _, some _ => False
def PostC (U : Au) (F H : Hp) (io : Option Addr) (m : Out) (Q : VK) (E : XK) : Prop := match m with
  | .ok v xs => ∀ u H' F', CGrow F H F' H' io xs → NewV F H F' H' u v → Q u H'
  | .exc c xs => ∀ H' F', CGrow F H F' H' io xs → E (.ref (U.ea c)) none H'
  | .bad => False
/-- what a def promises -/
def spF (K : PySem.W.Frag) (U : Au) (Φ : Nat → List Ar → Out) (f : Nat) : Sp := fun vs H Q E => ∃ F as io, Same F H ∧ AVs K U F H vs as io ∧ PostC U F H io (Φ f as) Q E
section
variable {X : Cx} {K : PySem.W.Frag} {U : Au} {W : WX} {Φ : Nat → List Ar → Out} {F F' G G' H H' : Hp} {σ σ' : L2.St} {s s' : St} {u u2 : V} {v w : Vl} {a b c : Expr} {ca cb cc : E} {pos p : Pos} {tg : Expr}
theorem AVs.len : ∀ {as : List Ar} {io : Option Addr} {vs : List V}, AVs K U F H vs as io → vs.length = as.length
  | [], none, _, h => h.length
  | .dat _ :: _, none, _, h => h.length
  | .fn _ :: _, none, _, h => h.length
  | .exc _ :: _, none, _, h => h.length
  | .scr _ :: _, none, _, h => h.length
  | .io _ :: _, some p, _, h => by
    obtain ⟨ws, vs', rfl, _, _, _, h⟩ := h
    rw [List.length_cons, List.length_cons, h.length]
theorem args_noIo {vs : List Vl} {as : List Ar} (h : args s vs = some (as, s')) : ∀ xs r, as ≠ .io xs :: r := by
  intro xs r e
  subst e
  cases vs with
  | nil => cases h
  | cons v vs =>
    unfold args at h
    cases v with
    | fn f =>
      simp only at h
      cases q : args s vs with
      | none => rw [q] at h; cases h
      | some y => rw [q] at h; simp at h
    | scr ns =>
      simp only at h
      cases q : args s vs with
      | none => rw [q] at h; cases h
      | some y => rw [q] at h; simp at h
    | _ =>
      simp only at h
      split at h
      · split at h
        · simp at h
        · cases h
      · cases h
theorem avs_of {vs : List V} {as : List Ar} (h : Paired (ArV K U F) vs as) (hn : ∀ xs r, as ≠ .io xs :: r) : AVs K U F H vs as none := by
  cases as with
  | nil => exact h
  | cons a r =>
    cases a with
    | io xs => exact absurd rfl (hn xs r)
    | _ => exact h
theorem CGrow.grow {xs : List D} (g : CGrow F H F' H' none xs) : Grow F H F' H' := ⟨fun a o e => g.keep a o e (fun z => nomatch z), g.f, g.new, g.fh⟩
theorem call_go {f : Nat} {vs : List Vl} {us : List V} {Q : VK} (R : Rep K U F G H σ s) (hvs : RepVs K U F G H σ s us vs) (hP : PostE K U W F G σ (callF Φ f vs s) Q) : spF K U Φ f us H Q (WE W σ) := by
  unfold callF at hP
  cases e : args s vs with
  | none => rw [e] at hP; exact hP.elim
  | some y =>
    obtain ⟨as, s1⟩ := y
    rw [e] at hP
    obtain ⟨F1, e1, R1, hp⟩ := args_ok R hvs e
    refine ⟨F1, as, none, R1.fh, avs_of hp (args_noIo e), ?_⟩
    have hP : PostE K U W F1 G σ (ofOut s1 (Φ f as)) Q := PostE.mono hP e1
    cases q : Φ f as with
    | bad => rw [q] at hP; exact hP
    | ok z xs =>
      rw [q] at hP
      exact fun u H' F' g n => hP u H' F' g.f (R1.grow g.grow) (n.rep R1 g.grow)
    | exc c xs =>
      rw [q] at hP
      exact fun H' F' g => hP H' F' g.f (R1.grow g.grow)
theorem passN (tk : L2N.Takes X W) (σ : L2.St) : PassesAt (L2N.CX X.prog X.w) X σ (WE W σ) := fun _ _ _ e s' I c => tk e s' (L2N.XE.of_call I (fun _ _ _ h => h) c)

/-- what stays true of a def's name in every context -/
structure FnAt (X : Cx) (U : Au) (Φ : Nat → List Ar → Out) (k f : Nat) (x : Str) : Prop where
  ok : ∃ fd ps, FnG X.prog X.w X.K X.mg X.base (L2N.CX X.prog X.w) k (U.fa f) fd ps (spF X.K U Φ f) ∧ Binds X.K fd ps []
  mg : X.mg x = some (.ref (U.fa f))
  kp : PySem.W.keepIn X.K (.ref (U.fa f)) = true
theorem backTo_many {es : List Expr} {env : Env} (h : es.all starless = true) : (backTo pos (starEach es env)).any (·.1) = false := by
  induction es with
  | nil => rfl
  | cons e es ih =>
    rw [List.all_cons, Bool.and_eq_true] at h
    rw [starless_eq h.1]
    exact ih h.2
theorem xe_call {f k : Nat} {x : Str} {es : List Expr} {ces : Es} (tk : L2N.Takes X W) (hf : FnAt X U Φ k f x) (hr : Room k X.A) (gd : X.A.guards = some []) (hg : Gl X x) (hdb : (x == ("__debug__" : Str)) = false) (ha : PA X (a :: es) (tA X.K U W Φ ces)) (hs : starless a = true) (hs2 : es.all starless = true) :
    PE X (.Call (.Name x p) (a :: es) [] pos) (tE X.K U W Φ (.call f ces)) := by
  obtain ⟨fd, ps, F0, hb⟩ := hf.ok
  refine PE.imp (pe_callG (E := WE W) F0 hr gd hg hf.mg hf.kp hb (passN tk) ha hdb (starless_eq hs) (backTo_many hs2)) fun σ H Q ⟨F, G, s, R, hP⟩ => ?_
  exact seqA (wE X.K U W G σ Q) R hP fun vs s1 us H1 F1 e1 R1 hvs hP1 => call_go R1 hvs hP1

/-! ### with an in-out list -/
def asIo : B → List D → B
  | .io _, xs => .io xs
  | _, xs => .lst xs
theorem Rep.io {i : Nat} {b0 : B} {q : Addr} {ys : List D} (R : Rep K U F G H σ s) (e : s[i]? = some b0) (hb : (∃ xs, b0 = .lst xs) ∨ ∃ xs, b0 = .io xs) (hq : σ[i]? = some (some (.ref q))) (g : CGrow F H F' H' (some q) ys) :
    Rep K U F' G H' σ (s.set i (asIo b0 ys)) := by
  have ow : owned b0 = true := by rcases hb with ⟨xs, rfl⟩ | ⟨xs, rfl⟩ <;> rfl
  obtain ⟨p0, o, h1, h2, h3, h4⟩ := R.own e ow
  rw [hq] at h1; cases h1
  have li : i < s.length := (List.getElem?_eq_some_iff.mp e).1
  have hF' : F' q = none := by
    cases z : F' q with
    | none => rfl
    | some x => have := g.new q x z h3; rw [h2] at this; cases this
  obtain ⟨vs, hv1, hv2⟩ := g.io q rfl
  have owd : owned (asIo b0 ys) = true := by rcases hb with ⟨xs, rfl⟩ | ⟨xs, rfl⟩ <;> rfl
  have get : ∀ j b', (s.set i (asIo b0 ys))[j]? = some b' → (j = i ∧ b' = asIo b0 ys) ∨ (j ≠ i ∧ s[j]? = some b') := fun j b' hj => by
    by_cases z : i = j
    · subst z
      rw [List.getElem?_set_self li] at hj
      cases hj
      exact .inl ⟨rfl, rfl⟩
    · rw [List.getElem?_set_ne z] at hj
      exact .inr ⟨fun y => z y.symm, hj⟩
  refine ⟨by rw [List.length_set]; exact R.len, g.fh, fun a o e => g.keep a o (R.gh a o e) (fun z => by cases z; rw [h4] at e; cases e), fun a o e => ?_, fun j b' hj => ?_, fun j k bj bk pp hj hk oj ok sj sk => ?_⟩
  · cases z : F a with
    | some x => exact R.fg a x z
    | none => exact R.gh.free (g.new a o e z)
  · rcases get j b' hj with ⟨rfl, rfl⟩ | ⟨hne, hj⟩
    · rw [hq]
      rcases hb with ⟨xs, rfl⟩ | ⟨xs, rfl⟩
      · exact ⟨hF', h4, vs, hv1, hv2⟩
      · have hx := R.b _ _ e
        rw [hq] at hx
        obtain ⟨_, _, h0, _⟩ := hx
        exact ⟨hF', h4, h0, vs, hv1, hv2⟩
    · refine RepB.mono g.f (fun p hp ho hn => ?_) (fun _ _ _ h => h) (fun p o hp ho h => g.keep p o h (fun z => ?_)) (R.b j b' hj)
      · cases z : F' p with
        | none => rfl
        | some x =>
          obtain ⟨p', o', y1, y2, _, _⟩ := R.own hj ho
          rw [hp] at y1; cases y1
          have := g.new p x z hn; rw [y2] at this; cases this
      · cases z
        exact hne (R.inj j i b' b0 q hj e ho ow hp hq)
  · have toOld : ∀ j b', (s.set i (asIo b0 ys))[j]? = some b' → owned b' = true → ∃ b2, s[j]? = some b2 ∧ owned b2 = true := fun j b' hj ob => by
      rcases get j b' hj with ⟨rfl, rfl⟩ | ⟨hne, hj⟩
      · exact ⟨b0, e, ow⟩
      · exact ⟨b', hj, ob⟩
    obtain ⟨b1, x1, x2⟩ := toOld j bj hj oj
    obtain ⟨b2, x3, x4⟩ := toOld k bk hk ok
    exact R.inj j k b1 b2 pp x1 x3 x2 x4 sj sk
theorem ofOutIo_eq {i : Nat} {b0 : B} (e : s[i]? = some b0) (hb : (∃ xs, b0 = .lst xs) ∨ ∃ xs, b0 = .io xs) : ∀ o, ofOutIo s i o = match o with
    | .ok v xs => .ok v (s.set i (asIo b0 xs))
    | .exc c xs => .exc c (s.set i (asIo b0 xs))
    | .bad => .bad := by
  intro o
  rcases hb with ⟨xs, rfl⟩ | ⟨xs, rfl⟩ <;> cases o <;> simp [ofOutIo, e, asIo]
theorem callIo_go {f i : Nat} {vs : List Vl} {us : List V} {z : V} {Q : VK} (R : Rep K U F G H σ s) (hz : σ[i]? = some (some z)) (hvs : RepVs K U F G H σ s us vs) (hP : PostE K U W F G σ (callIoF Φ f i vs s) Q) : spF K U Φ f (z :: us) H Q (WE W σ) := by
  unfold callIoF at hP
  cases e : args s vs with
  | none => rw [e] at hP; exact hP.elim
  | some y =>
    obtain ⟨as, s1⟩ := y
    rw [e] at hP
    obtain ⟨F1, e1, R1, hp⟩ := args_ok R hvs e
    have hP : PostE K U W F1 G σ (match s1[i]? with
      | some (.lst xs) => ofOutIo s1 i (Φ f (.io xs :: as))
      | some (.io xs) => ofOutIo s1 i (Φ f (.io xs :: as))
      | _ => .bad) Q := PostE.mono hP e1
    have main : ∀ b0 xs, s1[i]? = some b0 → (b0 = .lst xs ∨ b0 = .io xs) → PostE K U W F1 G σ (ofOutIo s1 i (Φ f (.io xs :: as))) Q → spF K U Φ f (z :: us) H Q (WE W σ) := by
      intro b0 xs eb hb hP
      have hb' : (∃ xs, b0 = .lst xs) ∨ ∃ xs, b0 = .io xs := by rcases hb with rfl | rfl; exact .inl ⟨_, rfl⟩; exact .inr ⟨_, rfl⟩
      have hz0 := R1.b i b0 eb
      rw [hz] at hz0
      have ⟨q, ws, hzq, h1, h2, h3⟩ : ∃ q ws, z = .ref q ∧ H q = some (.lst ws) ∧ F1 q = none ∧ DatL F1 ws xs := by
        rcases hb with rfl | rfl
        · cases z with
          | ref q => obtain ⟨y1, y2, ws, y3, y4⟩ := hz0; exact ⟨q, ws, rfl, y3, y1, y4⟩
          | _ => exact hz0.elim
        · cases z with
          | ref q => obtain ⟨y1, y2, _, ws, y3, y4⟩ := hz0; exact ⟨q, ws, rfl, y3, y1, y4⟩
          | _ => exact hz0.elim
      subst hzq
      refine ⟨F1, .io xs :: as, some q, R1.fh, ⟨ws, us, rfl, h1, h2, h3, hp⟩, ?_⟩
      rw [ofOutIo_eq eb hb'] at hP
      have owb : owned b0 = true := by rcases hb with rfl | rfl <;> rfl
      cases qq : Φ f (.io xs :: as) with
      | bad => rw [qq] at hP; exact hP
      | exc c ys =>
        rw [qq] at hP
        exact fun H' F' g => hP H' F' g.f (R1.io eb hb' hz g)
      | ok v ys =>
        rw [qq] at hP
        intro u H' F' g n
        have R2 := R1.io eb hb' hz g
        refine hP u H' F' g.f R2 ?_
        have fr : ∀ p, H p = none → Free σ (s1.set i (asIo b0 ys)) p := fun p hp j b hb ho hy => by
          obtain ⟨p2, o2, w1, w2, _, _⟩ := R2.own hb ho
          have : ∃ b3, s1[j]? = some b3 ∧ owned b3 = true := by
            by_cases y : i = j
            · subst y; exact ⟨b0, eb, owb⟩
            · rw [List.getElem?_set_ne y] at hb; exact ⟨b, hb, ho⟩
          obtain ⟨b3, w3, w4⟩ := this
          obtain ⟨p4, o4, w5, w6, _, _⟩ := R1.own w3 w4
          rw [hy] at w5; cases w5
          rw [hp] at w6; cases w6
        cases v with
        | dat d => exact n
        | newL l => obtain ⟨p, vs, rfl, n1, n2, n3, n4⟩ := n; exact ⟨p, vs, rfl, n3, n2, R1.gh.free n1, n4, fr p n1⟩
        | newD l => obtain ⟨p, vs, rfl, n1, n2, n3, n4⟩ := n; exact ⟨p, vs, rfl, n3, n2, R1.gh.free n1, n4, fr p n1⟩
        | _ => exact n.elim
    cases eb : s1[i]? with
    | none => rw [eb] at hP; exact hP.elim
    | some b0 =>
      rw [eb] at hP
      cases b0 with
      | lst xs => exact main _ xs eb (.inl rfl) hP
      | io xs => exact main _ xs eb (.inr rfl) hP
      | _ => exact hP.elim
theorem xe_callIo {f k i : Nat} {x y : Str} {py : Pos} {es : List Expr} {ces : Es} (tk : L2N.Takes X W) (hf : FnAt X U Φ k f x) (hr : Room k X.A) (gd : X.A.guards = some []) (hg : Gl X x) (hdb : (x == ("__debug__" : Str)) = false) (hy : PE X (.Name y py) (tVar i)) (ha : PA X es (tA X.K U W Φ ces)) (hs2 : es.all starless = true) :
    PE X (.Call (.Name x p) (.Name y py :: es) [] pos) (tE X.K U W Φ (.callIo f i ces)) := by
  obtain ⟨fd, ps, F0, hb⟩ := hf.ok
  refine PE.imp (pe_callG (E := WE W) F0 hr gd hg hf.mg hf.kp hb (passN tk) (pa_cons hy ha (starless_eq (e := .Name y py) rfl)) hdb (starless_eq (e := .Name y py) rfl) (backTo_many hs2)) fun σ H Q ⟨F, G, s, R, hP⟩ => ?_
  replace hP : PostE X.K U W F G σ (match ownL s i with
    | true => (dEs Φ ces s).bind fun vs s1 => callIoF Φ f i vs s1
    | false => .bad) Q := hP
  cases ho : ownL s i with
  | false => rw [ho] at hP; exact hP.elim
  | true =>
    rw [ho] at hP
    have ⟨b0, eb, ob⟩ : ∃ b0, s[i]? = some b0 ∧ owned b0 = true := by
      unfold ownL at ho
      cases e : s[i]? with
      | none => rw [e] at ho; cases ho
      | some b =>
        rw [e] at ho
        cases b <;> first | exact ⟨_, rfl, rfl⟩ | cases ho
    obtain ⟨q, o, hq, _⟩ := R.own eb ob
    refine ⟨.ref q, hq, ?_⟩
    exact seqA (wE X.K U W G σ Q) R hP fun vs s1 us H1 F1 e1 R1 hvs hP1 => callIo_go R1 hq hvs hP1
end
end Fc

/-! statements -/
namespace Fc
open PySem PySem.Spec PyProof.Rows L2
section
variable (K : PySem.W.Frag) (U : Au) (W : WX)
def PostS (F G : Hp) (m : R Fl) (D : Ends) : Prop := match m with
  | .ok .next s' => ∀ σ' H' F', Same F F' → Rep K U F' G H' σ' s' → D.nx σ' H'
  | .ok (.ret v) s' => ∀ u σ' H' F', Same F F' → Rep K U F' G H' σ' s' → RepV K U F' G H' σ' s' u v → D.rt u H'
  | .exc c s' => ∀ σ' H' F', Same F F' → Rep K U F' G H' σ' s' → W (.ref (U.ea c)) none σ' H'
  | .bad => False
variable (Φ : Nat → List Ar → Out)
def tS (c : S) : TS := fun D σ H => ∃ F G s, Rep K U F G H σ s ∧ PostS K U W F G (dS Φ c s) D
def tSs (c : Ss) : TS := fun D σ H => ∃ F G s, Rep K U F G H σ s ∧ PostS K U W F G (dSs Φ c s) D
end
section
variable {X : Cx} {K : PySem.W.Frag} {U : Au} {W : WX} {Φ : Nat → List Ar → Out} {F F' G G' H H' : Hp} {σ σ' : L2.St} {s s' : St} {u u2 : V} {v w : Vl} {a b c : Expr} {ca cb cc : E} {pos p : Pos} {tg : Expr} {D : Ends}
theorem PostS.mono {m : R Fl} (h : PostS K U W F G m D) (e : Same F F') : PostS K U W F' G m D := by
  cases m with
  | ok f s' =>
    cases f with
    | next => exact fun σ' H' F'' a b => h σ' H' F'' (e.trans a) b
    | ret v => exact fun u σ' H' F'' a b c => h u σ' H' F'' (e.trans a) b c
  | exc c s' => exact fun σ' H' F'' a b => h σ' H' F'' (e.trans a) b
  | bad => exact h
def wS (K : PySem.W.Frag) (U : Au) (W : WX) (G : Hp) (σ : L2.St) (D : Ends) : Wish K U W G σ Fl := ⟨fun F m => PostS K U W F G m D, fun h e => PostS.mono h e, fun h H' F' a b => h σ H' F' a b, fun h => h⟩

theorem ys_nil : PSs X [] (tSs X.K U W Φ .nil) := PSs.imp pss_nil fun D σ H ⟨F, G, s, R, hP⟩ => hP σ H F (Same.refl _) R
theorem ys_cons {st : Stmt} {rest : List Stmt} {cs : S} {css : Ss} (h1 : PS X st (tS X.K U W Φ cs)) (h2 : PSs X rest (tSs X.K U W Φ css)) : PSs X (st :: rest) (tSs X.K U W Φ (.cons cs css)) := by
  refine PSs.imp (pss_cons h1 h2) fun D σ H ⟨F, G, s, R, hP⟩ => ⟨F, G, s, R, ?_⟩
  replace hP : PostS X.K U W F G (match dS Φ cs s with
    | .ok .next s1 => dSs Φ css s1
    | r => r) D := hP
  cases e : dS Φ cs s with
  | bad => rw [e] at hP; exact hP
  | exc c s1 => rw [e] at hP; exact hP
  | ok f s1 =>
    rw [e] at hP
    cases f with
    | next => exact fun σ' H' F' a b => ⟨F', G, s1, b, PostS.mono hP a⟩
    | ret v => exact hP
theorem Rep.wiped1 (R : Rep K U F G H σ s) (is : List Nat) : Rep K U F G H σ (wipeB s is) :=
  R.at (by rw [wipeB_length]; exact R.len) fun j b' hj => by
    rw [wipeB_get] at hj
    split at hj
    · cases hj; exact ⟨trivial, fun z => nomatch z⟩
    · exact ⟨R.b j b' hj, fun _ => ⟨hj, rfl⟩⟩
theorem xi_wip {iter : Expr} {it : It} {is : List Nat} (h : PI X tg iter (tI X.K U W Φ it)) : PI X tg iter (tI X.K U W Φ (.wip is it)) := by
  refine PI.imp h fun σ H Q ⟨F, G, s, R, hP⟩ => ⟨F, G, s, R, ?_⟩
  replace hP : PostI X.K U W F G σ ((dIt Φ it s).bind fun xs s1 => .ok xs (wipeB s1 is)) Q := hP
  cases e : dIt Φ it s with
  | bad => rw [e] at hP; exact hP
  | exc c s1 => rw [e] at hP; exact hP
  | ok xs s1 => rw [e] at hP; exact fun J H' F' a R' j => hP J H' F' a (R'.wiped1 is) j
theorem ys_wipe {sts : List Stmt} {is : List Nat} {css : Ss} (h : PSs X sts (tSs X.K U W Φ css)) : PSs X sts (tSs X.K U W Φ (.cons (.wipe is) css)) :=
  PSs.imp h fun D σ H ⟨F, G, s, R, hP⟩ => ⟨F, G, wipeB s is, R.wiped1 is, hP⟩
theorem y_drop {e : Expr} {ce : E} (he : PE X e (tE X.K U W Φ ce)) (hs : swapsWith e none pos.line X.env = pure false) : PS X (.Expr e pos) (tS X.K U W Φ (.drop ce)) :=
  PS.imp (ps_expr he hs) fun D σ H ⟨F, G, s, R, hP⟩ => seqE (wS X.K U W G σ D) R hP fun v s1 u H1 F1 e1 R1 hv hP1 => hP1 σ H1 F1 (Same.refl _) R1
theorem y_ret {e : Expr} {ce : E} (he : PE X e (tE X.K U W Φ ce)) : PS X (.Return (some e) pos) (tS X.K U W Φ (.ret ce)) :=
  PS.imp (ps_ret he) fun D σ H ⟨F, G, s, R, hP⟩ => seqE (wS X.K U W G σ D) R hP fun v s1 u H1 F1 e1 R1 hv hP1 => hP1 u σ H1 F1 (Same.refl _) R1 hv
theorem y_retN : PS X (.Return none pos) (tS X.K U W Φ (.ret (.cst .none))) :=
  PS.imp ps_retN fun D σ H ⟨F, G, s, R, hP⟩ => hP .non σ H F (Same.refl _) R .non
theorem y_if {x y : List Stmt} {cx cy : Ss} (hc : PT X c (tT X.K U W Φ cc)) (ha : PSs X x (tSs X.K U W Φ cx)) (hb : PSs X y (tSs X.K U W Φ cy)) : PS X (.If c x y pos) (tS X.K U W Φ (.ite_ cc cx cy)) := by
  refine PS.imp (ps_if hc ha hb) fun D σ H ⟨F, G, s, R, hP⟩ => ⟨F, G, s, R, ?_⟩
  have e : dS Φ (.ite_ cc cx cy) s = ((dE Φ cc s).bind tru).bind fun c s => match c with
      | true => dSs Φ cx s
      | false => dSs Φ cy s := by
    rw [bind_bind]
    rfl
  rw [e] at hP
  cases q : (dE Φ cc s).bind tru with
  | ok k s1 =>
    rw [q] at hP
    intro H' F' a b
    cases k with
    | true => exact ⟨F', G, s1, b, PostS.mono hP a⟩
    | false => exact ⟨F', G, s1, b, PostS.mono hP a⟩
  | exc k s1 => rw [q] at hP; exact fun H' F' a b => hP σ H' F' a b
  | bad => rw [q] at hP; exact hP
/-! ### assignments -/
theorem setB_own {i : Nat} {b0 : B} {q : Addr} {o : HO} (R : Rep K U F G H σ s) (h : setB s i b0 = some s') (hb : RepB K U F G H (some (some (.ref q))) b0) (hf : Free σ s q) : Rep K U F G H (σ.set i (some (.ref q))) s' := by
  obtain ⟨li, rfl⟩ := setB_some h
  have li' : i < σ.length := by rw [← R.len]; exact li
  have get : ∀ j b', (s.set i b0)[j]? = some b' → (j = i ∧ b' = b0 ∧ (σ.set i (some (.ref q)))[j]? = some (some (.ref q))) ∨ (j ≠ i ∧ s[j]? = some b' ∧ (σ.set i (some (.ref q)))[j]? = σ[j]?) := fun j b' hj => by
    by_cases z : i = j
    · subst z
      rw [List.getElem?_set_self li] at hj
      cases hj
      exact .inl ⟨rfl, rfl, List.getElem?_set_self li'⟩
    · rw [List.getElem?_set_ne z] at hj
      exact .inr ⟨fun y => z y.symm, hj, List.getElem?_set_ne z⟩
  refine ⟨by rw [List.length_set, List.length_set]; exact R.len, R.fh, R.gh, R.fg, fun j b' hj => ?_, fun j k bj bk p hj hk oj ok sj sk => ?_⟩
  · rcases get j b' hj with ⟨rfl, rfl, e⟩ | ⟨_, e1, e2⟩
    · rw [e]; exact hb
    · rw [e2]; exact R.b j b' e1
  · rcases get j bj hj with ⟨rfl, rfl, e⟩ | ⟨n1, e1, e2⟩
    · rcases get k bk hk with ⟨rfl, rfl, e'⟩ | ⟨n2, e3, e4⟩
      · rfl
      · rw [e] at sj; cases sj
        rw [e4] at sk
        exact absurd sk (hf k bk e3 ok)
    · rcases get k bk hk with ⟨rfl, rfl, e'⟩ | ⟨n2, e3, e4⟩
      · rw [e'] at sk; cases sk
        rw [e2] at sj
        exact absurd sj (hf j bj e1 oj)
      · rw [e2] at sj
        rw [e4] at sk
        exact R.inj j k bj bk p e1 e3 oj ok sj sk
theorem setV_ok {i : Nat} (R : Rep K U F G H σ s) (hv : RepV K U F G H σ s u v) (e : setV s i v = some s') : ∃ F1, Same F F1 ∧ Rep K U F1 G H (σ.set i (some u)) s' := by
  have plain : ∀ (x : Option (Fc.D × St)), x = frz s v → (match x with
      | some (d, s1) => setB s1 i (.dat d)
      | none => none) = some s' → ∃ F1, Same F F1 ∧ Rep K U F1 G H (σ.set i (some u)) s' := by
    intro x hx e
    cases x with
    | none => cases e
    | some y =>
      obtain ⟨d, s1⟩ := y
      obtain ⟨F1, e1, R1, hd, _⟩ := frz_ok R hv hx.symm
      exact ⟨F1, e1, setB_dat R1 e hd⟩
  cases v with
  | newL xs =>
    obtain ⟨q, vs, rfl, h1, h2, h3, h4, h5⟩ := hv
    exact ⟨F, Same.refl _, setB_own (o := .lst vs) R e ⟨h2, h3, vs, h1, h4⟩ h5⟩
  | newD xs =>
    obtain ⟨q, o, rfl, h1, h2, h3, h4, h5⟩ := hv
    exact ⟨F, Same.refl _, setB_own (o := o) R e ⟨h2, h3, o, h1, h4⟩ h5⟩
  | fn f =>
    obtain ⟨li, rfl⟩ := setB_some e
    cases hv
    refine ⟨F, Same.refl _, R.at (by rw [List.length_set, List.length_set]; exact R.len) fun j b' hj => ?_⟩
    by_cases q : i = j
    · subst q
      rw [List.getElem?_set_self li] at hj
      cases hj
      rw [List.getElem?_set_self (by rw [← R.len]; exact li)]
      exact ⟨rfl, fun z => nomatch z⟩
    · rw [List.getElem?_set_ne q] at hj ⊢
      exact ⟨R.b j b' hj, fun _ => ⟨hj, rfl⟩⟩
  | exc c => cases e
  | dat d => exact plain _ rfl e
  | slot j => exact plain _ rfl e
  | scr ns => exact plain _ rfl e
theorem set_go {i : Nat} (R : Rep K U F G H σ s) (hv : RepV K U F G H σ s u v) (hP : PostS K U W F G (ofS .next (setV s i v)) D) : D.nx (σ.set i (some u)) H := by
  cases e : setV s i v with
  | none => rw [e] at hP; exact hP.elim
  | some s2 =>
    rw [e] at hP
    obtain ⟨F1, e1, R1⟩ := setV_ok R hv e
    exact hP _ H F1 e1 R1
theorem y_set {i : Nat} {x : Str} {e : Expr} {ce : E} {pos' : Pos} (hN : X.N.Nodup) (hi : X.N[i]? = some x) (hx : Loc X.env.scope x) (hf : X.fn x = true ∨ X.env.scope.names.lookup x = some .local) (he : PE X e (tE X.K U W Φ ce)) (hs : swapsWith e (some (.Name x pos')) pos.line X.env = pure false) :
    PS X (.Assign [.Name x pos'] e pos) (tS X.K U W Φ (.set i ce)) :=
  PS.imp (ps_set hN hi hx he hs hf) fun D σ H ⟨F, G, s, R, hP⟩ => seqE (wS X.K U W G σ D) R hP fun v s1 u H1 F1 e1 R1 hv hP1 => set_go R1 hv hP1
/-- a, b = .. of a tuple -/
theorem pgs_names {is : List Nat} {xs : List Str} {ps : List Pos} (hN : X.N.Nodup) (h : Paired (fun (i : Nat) (x : Str) => X.N[i]? = some x ∧ Loc X.env.scope x ∧ (X.fn x = true ∨ X.env.scope.names.lookup x = some .local)) is xs) (hl : xs.length = ps.length) :
    PGs X ((xs.zip ps).map fun y => .Name y.1 y.2) (fun vs σ H Q => vs.length = is.length ∧ Q (setS σ is vs) H) := by
  induction h generalizing ps with
  | nil =>
    refine ⟨fun pins s σ H vs us Q I r hw => ?_⟩
    have e : vs = [] := List.eq_nil_of_length_eq_zero hw.1
    subst e
    exact pgs_nil.run pins s σ H [] us Q I r ⟨rfl, hw.2⟩
  | @cons i x is xs hx t ih =>
    cases ps with
    | nil => cases hl
    | cons p ps =>
      have hl' : xs.length = ps.length := by simpa using hl
      refine ⟨fun pins s σ H vs us Q I r hw => ?_⟩
      have g := pgs_cons (pg_name (pos := p) hN hx.1 hx.2.1 hx.2.2) (ih hl') rfl
      cases vs with
      | nil => cases hw.1
      | cons v vs => exact g.run pins s σ H (v :: vs) us Q I r ⟨v, vs, rfl, by simpa using hw.1, hw.2⟩
theorem assignEach_names (xs : List Str) (ps : List Pos) (env : Env) : (assignEach ((xs.zip ps).map fun y => Expr.Name y.1 y.2) env).findIdx? (·.1) = none ∧ (assignEach ((xs.zip ps).map fun y => Expr.Name y.1 y.2) env).length = (xs.zip ps).length := by
  induction xs generalizing ps with
  | nil => exact ⟨rfl, rfl⟩
  | cons x xs ih =>
    cases ps with
    | nil => exact ⟨rfl, rfl⟩
    | cons p ps =>
      obtain ⟨h1, h2⟩ := ih ps
      have e : assignEach (((x :: xs).zip (p :: ps)).map fun y => Expr.Name y.1 y.2) env = (false, assign (.Name x p) env) :: assignEach ((xs.zip ps).map fun y => Expr.Name y.1 y.2) env := rfl
      rw [e]
      refine ⟨?_, by rw [List.length_cons, h2]; rfl⟩
      rw [List.findIdx?_cons, h1]
      rfl
theorem pg_names {is : List Nat} {xs : List Str} {ps : List Pos} {k : Nat} (hc : X.calm = true) (hN : X.N.Nodup) (h : Paired (fun (i : Nat) (x : Str) => X.N[i]? = some x ∧ Loc X.env.scope x ∧ (X.fn x = true ∨ X.env.scope.names.lookup x = some .local)) is xs) (hl : xs.length = ps.length) :
    PG X (.Tuple ((xs.zip ps).map fun y => .Name y.1 y.2) k pos) (tG X.K (.names is)) := by
  obtain ⟨h1, h2⟩ := assignEach_names xs ps X.env
  have hlen : (assignEach ((xs.zip ps).map fun y => Expr.Name y.1 y.2) X.env).length = is.length := by
    rw [h2, List.length_zip, ← hl, Nat.min_self]
    exact h.length.symm
  refine ⟨fun pins s σ H v u Q I r hw => (pg_tup hc (pgs_names hN h hl) hlen h1).run pins s σ H v u Q I r ?_⟩
  obtain ⟨a, ys, rfl, hq, hn, q⟩ := hw
  exact ⟨a, ys, rfl, hq, hn, hn, q⟩
theorem y_unp {is : List Nat} {xs : List Str} {ps : List Pos} {k : Nat} {e : Expr} {ce : E} {tpos : Pos} (hc : X.calm = true) (hN : X.N.Nodup) (h : Paired (fun (i : Nat) (x : Str) => X.N[i]? = some x ∧ Loc X.env.scope x ∧ (X.fn x = true ∨ X.env.scope.names.lookup x = some .local)) is xs) (hl : xs.length = ps.length)
    (he : PE X e (tE X.K U W Φ ce)) (hs : swapsWithSole [.Tuple ((xs.zip ps).map fun y => .Name y.1 y.2) k tpos] e pos.line X.env = pure false) (hw : swappedStores [.Tuple ((xs.zip ps).map fun y => .Name y.1 y.2) k tpos] e X.env = pure none) :
    PS X (.Assign [.Tuple ((xs.zip ps).map fun y => .Name y.1 y.2) k tpos] e pos) (tS X.K U W Φ (.unp is ce)) := by
  refine PS.imp (ps_asg he (pg_names (pos := tpos) (k := k) hc hN h hl) hs hw rfl) fun D σ H ⟨F, G, s, R, hP⟩ => ?_
  refine seqE (wS X.K U W G σ D) R hP fun v s1 u H1 F1 e1 R1 hv hP1 => ?_
  replace hP1 : PostS X.K U W F1 G (match frz s1 v with
    | some (d, s2) => match tupOf d with
      | some ds => ofS .next (setDs s2 is ds)
      | none => .bad
    | none => .bad) D := hP1
  cases q : frz s1 v with
  | none => rw [q] at hP1; exact hP1.elim
  | some y =>
    obtain ⟨d, s2⟩ := y
    rw [q] at hP1
    obtain ⟨F2, e2, R2, hd, _⟩ := frz_ok R1 hv q
    cases hd with
    | @tup a0 vs ds h1 h2 =>
      replace hP1 : PostS X.K U W F1 G (ofS .next (setDs s2 is ds)) D := hP1
      cases q2 : setDs s2 is ds with
      | none => rw [q2] at hP1; exact hP1.elim
      | some s3 =>
        rw [q2] at hP1
        obtain ⟨r, l⟩ := setDs_rep R2 h2 q2
        exact ⟨_, _, rfl, SqT.of (R2.fh _ _ h1), l, hP1 _ H1 F2 e2 r⟩
    | _ => exact hP1.elim
/-- a, b = x, y -/
theorem y_par {i j : Nat} {x y : Str} {px py pt pt2 : Pos} {kt k2 : Nat} (hc : X.calm = true) (hN : X.N.Nodup) (hi : X.N[i]? = some x) (hj : X.N[j]? = some y) (hij : i ≠ j) (hx : X.env.scope.names.lookup x = some .local) (hy : X.env.scope.names.lookup y = some .local)
    (ha : PE X a (tE X.K U W Φ ca)) (hb : PE X b (tE X.K U W Φ cb)) (hs1 : starless a = true) (hs2 : starless b = true) (hw : swappedStores [.Tuple [.Name x px, .Name y py] kt pt] (.Tuple [a, b] k2 pt2) X.env = pure (some [x, y])) :
    PS X (.Assign [.Tuple [.Name x px, .Name y py] kt pt] (.Tuple [a, b] k2 pt2) pos) (tS X.K U W Φ (.par i j ca cb)) := by
  refine PS.imp (ps_par hc hN hi hj hij hx hy (pa_cons ha (pa_cons hb pa_nil (starless_eq hs2)) (starless_eq hs1)) hw rfl) fun D σ H ⟨F, G, s, R, hP⟩ => ?_
  refine seqE (wS X.K U W G σ D) R hP fun v s1 u H1 F1 e1 R1 hv hP1 => ?_
  refine seqE2 (wS X.K U W G σ D) R1 hv hP1 fun v2 s2 u2 H2 F2 e2 R2 hv' hv2 hP2 => ?_
  replace hP2 : PostS X.K U W F2 G (match frz s2 v with
    | some (d, s3) => match frz s3 v2 with
      | some (e, s4) => ofS .next (setDs s4 [i, j] [d, e])
      | none => .bad
    | none => .bad) D := hP2
  refine ⟨u, u2, rfl, ?_⟩
  cases q1 : frz s2 v with
  | none => rw [q1] at hP2; exact hP2.elim
  | some z1 =>
    obtain ⟨d, s3⟩ := z1
    rw [q1] at hP2
    cases q2 : frz s3 v2 with
    | none => simp only [q2] at hP2; exact hP2.elim
    | some z2 =>
      obtain ⟨e, s4⟩ := z2
      simp only [q2] at hP2
      obtain ⟨F3, e3, R3, hd, he⟩ := frz_two R2 hv' hv2 q1 q2
      cases q3 : setDs s4 [i, j] [d, e] with
      | none => rw [q3] at hP2; exact hP2.elim
      | some s5 =>
        rw [q3] at hP2
        obtain ⟨r, _⟩ := setDs_rep (vs := [u, u2]) R3 (.cons hd (.cons he .nil)) q3
        exact hP2 _ H2 F3 e3 r
/-! ### lists changed -/
theorem own_upd {i : Nat} {b0 b1 : B} {q : Addr} {o : HO} (R : Rep K U F G H σ s) (e : s[i]? = some b0) (ow : owned b0 = true) (ow1 : owned b1 = true) (hq : σ[i]? = some (some (.ref q))) (hb : RepB K U F G (L2.upd H q o) (some (some (.ref q))) b1) : Rep K U F G (L2.upd H q o) σ (s.set i b1) := by
  obtain ⟨p0, o0, h1, h2, h3, h4⟩ := R.own e ow
  rw [hq] at h1; cases h1
  have li : i < s.length := (List.getElem?_eq_some_iff.mp e).1
  have get : ∀ j b', (s.set i b1)[j]? = some b' → (j = i ∧ b' = b1) ∨ (j ≠ i ∧ s[j]? = some b') := fun j b' hj => by
    by_cases z : i = j
    · subst z
      rw [List.getElem?_set_self li] at hj
      cases hj
      exact .inl ⟨rfl, rfl⟩
    · rw [List.getElem?_set_ne z] at hj
      exact .inr ⟨fun y => z y.symm, hj⟩
  refine ⟨by rw [List.length_set]; exact R.len, fun a x y => ?_, fun a x y => ?_, R.fg, fun j b' hj => ?_, fun j k bj bk pp hj hk oj ok sj sk => ?_⟩
  · rw [upd_ne (fun z => by subst z; rw [h3] at y; cases y)]; exact R.fh a x y
  · rw [upd_ne (fun z => by subst z; rw [h4] at y; cases y)]; exact R.gh a x y
  · rcases get j b' hj with ⟨rfl, rfl⟩ | ⟨hne, hj⟩
    · rw [hq]; exact hb
    · refine RepB.mono (Same.refl _) (fun _ _ _ h => h) (fun _ _ _ h => h) (fun p o' hp ho h => ?_) (R.b j b' hj)
      rw [upd_ne (fun z => by subst z; exact hne (R.inj j i b' b0 _ hj e ho ow hp hq))]; exact h
  · have toOld : ∀ j b', (s.set i b1)[j]? = some b' → owned b' = true → ∃ b2, s[j]? = some b2 ∧ owned b2 = true := fun j b' hj ob => by
      rcases get j b' hj with ⟨rfl, rfl⟩ | ⟨hne, hj⟩
      · exact ⟨b0, e, ow⟩
      · exact ⟨b', hj, ob⟩
    obtain ⟨c1, x1, x2⟩ := toOld j bj hj oj
    obtain ⟨c2, x3, x4⟩ := toOld k bk hk ok
    exact R.inj j k c1 c2 pp x1 x3 x2 x4 sj sk
theorem Rep.lstAt {i : Nat} {xs : List Fc.D} (R : Rep K U F G H σ s) (e : s[i]? = some (.lst xs)) : ∃ q vs, σ[i]? = some (some (.ref q)) ∧ H q = some (.lst vs) ∧ DatL F vs xs ∧ F q = none ∧ G q = none := by
  obtain ⟨q, o, h1, h2, h3, h4⟩ := R.own e rfl
  have hb := R.b i _ e
  rw [h1] at hb
  obtain ⟨_, _, vs, h5, h6⟩ := hb
  exact ⟨q, vs, h1, h5, h6, h3, h4⟩
theorem y_app {i : Nat} {x : Str} {e : Expr} {ce : E} {px apos cpos : Pos} (hx : PE X (.Name x px) (tVar i)) (he : PE X e (tE X.K U W Φ ce)) (hs : starless e = true) (hline : (apos.endLine == cpos.line) = true) :
    PS X (.Expr (.Call (.Attribute (.Name x px) "append" apos) [e] [] cpos) pos) (tS X.K U W Φ (.app i ce)) := by
  refine PS.imp (ps_expr (pe_bm PySem.F.plainAttrs_list PySem.F.slot_list_append PySem.F.type_list_append mt_append hx (pa_cons he pa_nil (starless_eq hs)) rfl (few_one hs) hline (starless_eq hs)) rfl) fun D σ H ⟨F, G, s, R, hP⟩ => ?_
  let f : Vl → St → Fc.R Fl := fun v s1 => match frz s1 v with
      | some (d, s2) => match s2[i]? with
        | some (.lst xs) => if lenOk (xs.length + 1) then .ok .next (s2.set i (.lst (xs ++ [d]))) else .bad
        | _ => .bad
      | none => .bad
  replace hP : PostS X.K U W F G (match s[i]? with
    | some (.lst _) => (dE Φ ce s).bind f
    | _ => .bad) D := hP
  have ⟨ys, ey, hP⟩ : ∃ ys, s[i]? = some (.lst ys) ∧ PostS X.K U W F G ((dE Φ ce s).bind f) D := by
    cases ey : s[i]? with
    | none => rw [ey] at hP; exact hP.elim
    | some b =>
      rw [ey] at hP
      cases b with
      | lst ys => exact ⟨ys, rfl, hP⟩
      | _ => exact hP.elim
  obtain ⟨q, vs0, hq, hH, _, _, _⟩ := R.lstAt ey
  refine ⟨.ref q, hq, .inl ⟨rfl, vs0, SqL.of hH⟩, ?_⟩
  refine seqE (wS X.K U W G σ D) R hP fun v s1 u H1 F1 e1 R1 hv hP1 => ?_
  replace hP1 : PostS X.K U W F1 G (f v s1) D := hP1
  simp only [f] at hP1
  cases q1 : frz s1 v with
  | none => rw [q1] at hP1; exact hP1.elim
  | some z =>
    obtain ⟨d, s2⟩ := z
    rw [q1] at hP1
    obtain ⟨F2, e2, R2, hd, _⟩ := frz_ok R1 hv q1
    cases ex : s2[i]? with
    | none => simp only [ex] at hP1; exact hP1.elim
    | some b =>
      simp only [ex] at hP1
      cases b with
      | lst xs =>
        by_cases hl : lenOk (xs.length + 1) = true
        · simp only [hl, if_true] at hP1
          obtain ⟨q', vs, hq', hH', hdl, hF', hG'⟩ := R2.lstAt ex
          rw [hq] at hq'; cases hq'
          refine ⟨q, vs, u, rfl, rfl, hH', by have := lenOk_of hl; rw [hdl.length]; omega, ?_⟩
          exact hP1 σ _ F2 e2 (own_upd R2 ex rfl rfl hq ⟨hF', hG', _, upd_same, hdl.append (.one hd)⟩)
        · simp only [hl] at hP1; exact hP1.elim
      | _ => exact hP1.elim
theorem ixN_len {n i : Nat} {k : Int} (h : ixN n k = some i) : i < n := (ixN_seq h).2.1
/-- xs[k] = e -/
theorem y_sti {i : Nat} {x : Str} {e k : Expr} {ce ck : E} {px tpos : Pos} (hx : PE X (.Name x px) (tVar i)) (hk : PE X k (tE X.K U W Φ ck)) (he : PE X e (tE X.K U W Φ ce)) (hs : swapsWithSole [.Subscript (.Name x px) k tpos] e pos.line X.env = pure false)
    (ha : ∀ v, assign (.Subscript (.Name x px) k tpos) X.env v = (do
      let ov ← holding [v] (eval (.Name x px) X.env)
      let iv ← holding [v, ov] (eval k X.env)
      standAt tpos
      holding [v, ov, iv] (setItem ov iv v)
      release [v, ov, iv] [])) :
    PS X (.Assign [.Subscript (.Name x px) k tpos] e pos) (tS X.K U W Φ (.sti i ck ce)) := by
  refine PS.imp (ps_asg he (pg_sub hx hk set_list ha) hs rfl rfl) fun D σ H ⟨F, G, s, R, hP⟩ => ?_
  refine seqE (wS X.K U W G σ D) R hP fun v s1 u H1 F1 e1 R1 hv hP1 => ?_
  replace hP1 : PostS X.K U W F1 G (match frz s1 v with
    | some (d, s2) => match ownL s2 i with
      | true => (dE Φ ck s2).bind fun w s3 => (intOf w s3).bind fun n s4 => match s4[i]? with
        | some (.lst xs) => match L2.ixN xs.length n with
          | some j => .ok .next (s4.set i (.lst (xs.set j d)))
          | none => .bad
        | some (.io xs) => match L2.ixN xs.length n with
          | some j => .ok .next (s4.set i (.io (xs.set j d)))
          | none => .bad
        | _ => .bad
      | false => .bad
    | none => .bad) D := hP1
  cases q1 : frz s1 v with
  | none => rw [q1] at hP1; exact hP1.elim
  | some z =>
    obtain ⟨d, s2⟩ := z
    rw [q1] at hP1
    obtain ⟨F2, e2, R2, hd, _⟩ := frz_ok R1 hv q1
    cases ho : ownL s2 i with
    | false => simp only [ho] at hP1; exact hP1.elim
    | true =>
      simp only [ho] at hP1
      have ⟨b0, eb, ob⟩ : ∃ b0, s2[i]? = some b0 ∧ owned b0 = true := by
        unfold ownL at ho
        cases e : s2[i]? with
        | none => rw [e] at ho; cases ho
        | some b =>
          rw [e] at ho
          cases b <;> first | exact ⟨_, rfl, rfl⟩ | cases ho
      obtain ⟨q, o, hq, _⟩ := R2.own eb ob
      refine ⟨.ref q, hq, ?_⟩
      refine seqE (wS X.K U W G σ D) R2 (PostS.mono hP1 e2) fun w s3 u3 H3 F3 e3 R3 hw hP3 => ?_
      obtain ⟨n, rfl, hP4⟩ := int_go (wS X.K U W G σ D) R3 hw hP3
      have hd3 : Dat F3 u d := Dat.mono e3 _ _ hd
      have hP4 : PostS X.K U W F3 G (match s3[i]? with
        | some (.lst xs) => match L2.ixN xs.length n with
          | some j => .ok .next (s3.set i (.lst (xs.set j d)))
          | none => .bad
        | some (.io xs) => match L2.ixN xs.length n with
          | some j => .ok .next (s3.set i (.io (xs.set j d)))
          | none => .bad
        | _ => .bad) D := hP4
      cases q3 : s3[i]? with
      | none => rw [q3] at hP4; exact hP4.elim
      | some b3 =>
        rw [q3] at hP4
        have hb3 := R3.b i b3 q3
        rw [hq] at hb3
        cases b3 with
        | lst xs =>
          obtain ⟨g1, g2, vs, g3, g4⟩ := hb3
          cases q4 : L2.ixN xs.length n with
          | none => simp only [q4] at hP4; exact hP4.elim
          | some j =>
            simp only [q4] at hP4
            refine ⟨q, vs, n, j, rfl, rfl, g3, by rw [g4.length]; exact q4, ?_⟩
            exact hP4 σ _ F3 (Same.refl _) (own_upd R3 q3 rfl rfl hq ⟨g1, g2, _, upd_same, g4.set hd3 j⟩)
        | io xs =>
          obtain ⟨g1, g2, g0, vs, g3, g4⟩ := hb3
          cases q4 : L2.ixN xs.length n with
          | none => simp only [q4] at hP4; exact hP4.elim
          | some j =>
            simp only [q4] at hP4
            refine ⟨q, vs, n, j, rfl, rfl, g3, by rw [g4.length]; exact q4, ?_⟩
            exact hP4 σ _ F3 (Same.refl _) (own_upd R3 q3 rfl rfl hq ⟨g1, g2, g0, _, upd_same, g4.set hd3 j⟩)
        | _ => exact hP4.elim
end
end Fc

/-! loops, raise -/
namespace Fc
open PySem PySem.Spec PyProof.Rows L2
section
variable {X : Cx} {K : PySem.W.Frag} {U : Au} {W : WX} {Φ : Nat → List Ar → Out} {F F' G G' H H' : Hp} {σ σ' : L2.St} {s s' : St} {u u2 : V} {v w : Vl} {a b c : Expr} {ca cb cc : E} {pos p : Pos} {tg : Expr} {D : Ends}
def turnF (Φ : Nat → List Ar → Out) (t : Tg) (b : Ss) : Fc.D → St → R Fl := fun x s => match setTg s t x with
  | some s2 => dSs Φ b s2
  | none => .bad
theorem for_go {J : L2.It} {xs : List Fc.D} {t : Tg} {bd : Ss} (R1 : Rep K U F G H σ s) (hJ : ItOk F J xs) (hP : PostS K U W F G (loopF (turnF Φ t bd) xs s) D) :
    ∃ V : Nat → Nat → L2.St → Hp → Prop, (∃ m, V 0 m σ H) ∧ ∀ i m σ H, V i m σ H →
      (J.stop i H ∧ D.nx σ H) ∨ (J.go i H ∧ ∃ N : L2.St → Hp → Prop, (∀ σ' H', N σ' H' → ∃ m', m' < m ∧ V (i + 1) m' σ' H') ∧ ∀ x H', J.yld i H x H' → tG K t x σ H' fun σ2 H2 => tSs K U W Φ bd { D with nx := N, ct := N, bk := D.nx } σ2 H2) := by
  refine ⟨fun i m σ H => m = xs.length - i ∧ i ≤ xs.length ∧ ∃ Fi si, Same F Fi ∧ Rep K U Fi G H σ si ∧ PostS K U W Fi G (loopF (turnF Φ t bd) (xs.drop i) si) D, ⟨xs.length, by omega, Nat.zero_le _, F, s, Same.refl _, R1, hP⟩, ?_⟩
  rintro i m σ1 H1 ⟨rfl, hi, Fi, si, eF, Ri, hPi⟩
  by_cases hlt : i < xs.length
  · refine .inr ⟨hJ.go i H1 (eF.trans Ri.fh) hlt, fun σ' H' => ∃ Fi si, Same F Fi ∧ Rep K U Fi G H' σ' si ∧ PostS K U W Fi G (loopF (turnF Φ t bd) (xs.drop (i + 1)) si) D, fun σ' H' h' => ⟨_, by omega, rfl, by omega, h'⟩, fun x H' y => ?_⟩
    have hx : xs[i]? = some xs[i] := List.getElem?_eq_getElem hlt
    obtain ⟨F2, g2, hdx⟩ := hJ.yld i H1 Fi x H' xs[i] eF Ri.fh hx y
    have R2 := Ri.grow g2
    have hdrop : xs.drop i = xs[i] :: xs.drop (i + 1) := List.drop_eq_getElem_cons hlt
    rw [hdrop] at hPi
    have hPi : PostS K U W F2 G (match turnF Φ t bd xs[i] si with
      | .ok .next s1 => loopF (turnF Φ t bd) (xs.drop (i + 1)) s1
      | r => r) D := PostS.mono hPi g2.f
    cases e : setTg si t xs[i] with
    | none =>
      have e2 : turnF Φ t bd xs[i] si = .bad := by unfold turnF; rw [e]
      rw [e2] at hPi
      exact hPi.elim
    | some s2 =>
      have e2 : turnF Φ t bd xs[i] si = dSs Φ bd s2 := by unfold turnF; rw [e]
      rw [e2] at hPi
      refine setTg_ok R2 hdx e fun vs Ra => ⟨F2, G, s2, Ra, ?_⟩
      cases q : dSs Φ bd s2 with
      | bad => rw [q] at hPi; exact hPi
      | exc c s3 => rw [q] at hPi; exact hPi
      | ok f s3 =>
        rw [q] at hPi
        cases f with
        | ret v => exact hPi
        | next => exact fun σ' H'' F3 a b => ⟨F3, s3, eF.trans (g2.f.trans a), b, PostS.mono hPi a⟩
  · have ei : i = xs.length := by omega
    subst ei
    rw [List.drop_length] at hPi
    exact .inl ⟨hJ.stop _ H1 (eF.trans Ri.fh) (Nat.le_refl _), hPi σ1 H1 Fi (Same.refl _) Ri⟩
theorem y_for {iter : Expr} {body : List Stmt} {t : Tg} {it : It} {bd : Ss} (hp : PassesOwn (model X.prog X.w) X.A X.env X.xe) (hc : X.calm = true) (hi : PI X tg iter (tI X.K U W Φ it)) (hg : PG X tg (tG X.K t)) (hb : PSs X body (tSs X.K U W Φ bd)) (hs : ∀ x, foldedSetIterable iter X.env x = pure x) :
    PS X (.For tg iter body [] pos) (tS X.K U W Φ (.for_ t it bd)) := by
  refine PS.imp (ps_for hp hc hi hg hb hs) fun D σ H ⟨F, G, s, R, hP⟩ => ⟨F, G, s, R, ?_⟩
  replace hP : PostS X.K U W F G ((dIt Φ it s).bind fun xs s1 => loopF (turnF Φ t bd) xs s1) D := hP
  cases e : dIt Φ it s with
  | bad => rw [e] at hP; exact hP
  | exc c s1 => rw [e] at hP; exact fun H' F' a b => hP σ H' F' a b
  | ok xs s1 =>
    rw [e] at hP
    exact fun J H1 F1 a b hJ => for_go b hJ (PostS.mono hP a)
theorem y_while {body : List Stmt} {bd : Ss} (hp : PassesOwn (model X.prog X.w) X.A X.env X.xe) (hc : PT X c (tT X.K U W Φ cc)) (hb : PSs X body (tSs X.K U W Φ bd)) : PS X (.While c body [] pos) (tS X.K U W Φ (.while_ cc bd)) := by
  refine PS.imp (ps_while hp hc hb) fun D σ H ⟨F, G, s, R, hP⟩ => ?_
  refine ⟨fun m σ H => ∃ Fi si, Rep X.K U Fi G H σ si ∧ PostS X.K U W Fi G (loopW (fun s => (dE Φ cc s).bind tru) (fun s => dSs Φ bd s) m si) D, ⟨1000, F, s, R, hP⟩, ?_⟩
  rintro m σ1 H1 ⟨Fi, si, Ri, hPi⟩
  cases m with
  | zero => exact hPi.elim
  | succ m =>
    refine ⟨Fi, G, si, Ri, ?_⟩
    replace hPi : PostS X.K U W Fi G (((dE Φ cc si).bind tru).bind fun c s1 => match c with
      | true => match dSs Φ bd s1 with
        | .ok .next s2 => loopW (fun s => (dE Φ cc s).bind tru) (fun s => dSs Φ bd s) m s2
        | r => r
      | false => .ok .next s1) D := hPi
    cases q : (dE Φ cc si).bind tru with
    | bad => rw [q] at hPi; exact hPi
    | exc c s1 => rw [q] at hPi; exact fun H' F' a b => hPi σ1 H' F' a b
    | ok k s1 =>
      rw [q] at hPi
      intro H2 F2 a b
      cases k with
      | false =>
        rw [if_neg Bool.false_ne_true]
        exact hPi σ1 H2 F2 a b
      | true =>
        rw [if_pos rfl]
        refine ⟨fun σ' H' => ∃ Fi si, Rep X.K U Fi G H' σ' si ∧ PostS X.K U W Fi G (loopW (fun s => (dE Φ cc s).bind tru) (fun s => dSs Φ bd s) m si) D, fun σ' H' h => ⟨m, Nat.lt_succ_self _, h⟩, F2, G, s1, b, ?_⟩
        replace hPi : PostS X.K U W Fi G (match dSs Φ bd s1 with
          | .ok .next s2 => loopW (fun s => (dE Φ cc s).bind tru) (fun s => dSs Φ bd s) m s2
          | r => r) D := hPi
        cases q2 : dSs Φ bd s1 with
        | bad => rw [q2] at hPi; exact hPi
        | exc c s3 => rw [q2] at hPi; exact PostS.mono (m := .exc c s3) hPi a
        | ok f s3 =>
          rw [q2] at hPi
          cases f with
          | ret v => exact PostS.mono (m := .ok (.ret v) s3) hPi a
          | next => exact fun σ' H'' F3 a' b' => ⟨F3, s3, b', PostS.mono hPi (a.trans a')⟩
/-- what is known of an exception class's name -/
structure EcAt (X : Cx) (U : Au) (c : Nat) (x : Str) : Prop where
  mg : X.mg x = some (.ref (U.ea c))
  kp : PySem.W.keepIn X.K (.ref (U.ea c)) = true
  ex : PySem.W.excIn X.K (U.ea c) [.type "ValueError", .type "Exception", .type "BaseException", .type "object"] "ValueError.__new__" = true
  sub : PySem.W.subIn X.K (.ref (U.ea c)) (.type "BaseException") = some true
  ty : PySem.W.typeIn X.K (.ref (U.ea c)) = some (.type "type")
theorem y_raise {n j : Nat} {x m : Str} {p2 pos2 : Pos} (hc : X.calm = true) (tk : L2N.Takes X W) (he : EcAt X U n x) (hg : Gl X x) (hdb : (x == ("__debug__" : Str)) = false) : PS X (.Raise (some (.Call (.Name x p) [.Constant (.str m) j p2] [] pos)) none pos2) (tS X.K U W Φ (.raise_ n)) :=
  PS.imp (L2N.ps_raise hc tk (L2N.pmk_own PySem.F.excBase_ValueError he.ex he.mg he.kp (raises_own he.sub he.ty) hg hdb)) fun D σ H ⟨F, G, s, R, hP⟩ => hP σ H F (Same.refl _) R
/-- behind an expression -/
theorem seqP {β : Type} (w : Wish K U W G σ β) {m : R Vl} {f : Vl → St → R β} {Q1 : VK} (hP : w.P F (m.bind f))
    (k : ∀ v s1 u H1 F1, Same F F1 → Rep K U F1 G H1 σ s1 → RepV K U F1 G H1 σ s1 u v → w.P F1 (f v s1) → Q1 u H1) : PostE K U W F G σ m Q1 := by
  cases m with
  | ok v s1 => exact fun u H1 F1 a b c => k v s1 u H1 F1 a b c (w.mono hP a)
  | exc c s1 => exact w.exc hP
  | bad => exact w.bad hP
section
variable {elt iter : Expr} {scope : Scope} {own : List (Str × Nat)} {t : Tg} {it : It} {i : Nat} {y : Str} {py spos : Pos}
/-- name = [..] on one line -/
theorem y_setLc (hc : X.calm = true) (hN : X.N.Nodup) (hy : X.N[i]? = some y) (hyl : X.env.scope.names.lookup y = some .local) (hsw : swapsWith (.ListComp elt [⟨tg, iter, [], 0⟩] scope pos) (some (.Name y py)) spos.line X.env = pure true)
    (hi : PI X tg iter (tI X.K U W Φ it)) (ok : BlkOk X.N X.env.scope scope own) (ht : ∀ i ∈ tgIs t, i ∈ own.map (·.2))
    (hg : ∀ (s : Shared) (H : Hp) (C : Addr) (cl : List (Str × Addr)) (fp : List Addr), PG (X.blk s H scope (compEnvC scope cl C X.env) fp) tg (tG X.K t))
    (he : ∀ (s : Shared) (H : Hp) (C : Addr) (cl : List (Str × Addr)) (fp : List Addr), PE (X.blk s H scope (compEnvC scope cl C X.env) fp) elt (tE X.K U W0 Φ ca)) (hs : ∀ x, foldedSetIterable iter X.env x = pure x) :
    PS X (.Assign [.Name y py] (.ListComp elt [⟨tg, iter, [], 0⟩] scope pos) spos) (tS X.K U W Φ (.set i (.comp ca (own.map (·.2)) t it))) :=
  PS.imp (ps_setLc hc hN hy hyl hsw hi ok hg (fun _ _ _ _ _ => pts_nil) he hs) fun D σ H ⟨F, G, s, R, hP⟩ =>
    lc_read (wi := tI X.K U W Φ it) (turnC_ok (Φ := Φ) (ca := ca) ht) R (seqP (F := F) (m := dE Φ (.comp ca (own.map fun x : Str × Nat => x.2) t it) s) (f := fun v s1 => ofS .next (setV s1 i v)) (wS X.K U W G σ D) hP fun v s1 u H1 F1 e1 R1 hv hP1 => set_go R1 hv hP1)
theorem y_setLcIf (hc : X.calm = true) (hN : X.N.Nodup) (hy : X.N[i]? = some y) (hyl : X.env.scope.names.lookup y = some .local) (hsw : swapsWith (.ListComp elt [⟨tg, iter, [c], 0⟩] scope pos) (some (.Name y py)) spos.line X.env = pure true)
    (hi : PI X tg iter (tI X.K U W Φ it)) (ok : BlkOk X.N X.env.scope scope own) (ht : ∀ i ∈ tgIs t, i ∈ own.map (·.2))
    (hg : ∀ (s : Shared) (H : Hp) (C : Addr) (cl : List (Str × Addr)) (fp : List Addr), PG (X.blk s H scope (compEnvC scope cl C X.env) fp) tg (tG X.K t))
    (hcc : ∀ (s : Shared) (H : Hp) (C : Addr) (cl : List (Str × Addr)) (fp : List Addr), PT (X.blk s H scope (compEnvC scope cl C X.env) fp) c (tT X.K U W0 Φ cb))
    (he : ∀ (s : Shared) (H : Hp) (C : Addr) (cl : List (Str × Addr)) (fp : List Addr), PE (X.blk s H scope (compEnvC scope cl C X.env) fp) elt (tE X.K U W0 Φ ca)) (hs : ∀ x, foldedSetIterable iter X.env x = pure x) :
    PS X (.Assign [.Name y py] (.ListComp elt [⟨tg, iter, [c], 0⟩] scope pos) spos) (tS X.K U W Φ (.set i (.compIf ca (own.map (·.2)) t it cb))) :=
  PS.imp (ps_setLc hc hN hy hyl hsw hi ok hg (fun s H C cl fp => pts_one (hcc s H C cl fp)) he hs) fun D σ H ⟨F, G, s, R, hP⟩ =>
    lc_read (wi := tI X.K U W Φ it) (turnIf_ok (Φ := Φ) (ca := ca) (cb := cb) ht) R (seqP (F := F) (m := dE Φ (.compIf ca (own.map fun x : Str × Nat => x.2) t it cb) s) (f := fun v s1 => ofS .next (setV s1 i v)) (wS X.K U W G σ D) hP fun v s1 u H1 F1 e1 R1 hv hP1 => set_go R1 hv hP1)
end
end
end Fc

/-! repr, [::-1], in range(..), calls of names that hold defs -/
namespace Fc
open PySem PySem.Spec PyProof.Rows L2
/-! ### repr -/
mutual
theorem shw_ok : ∀ (n : Nat) (d : D), shw n d = true → d.showable = true ∧ d.depth ≤ n + 1
  | _, .none, _ => ⟨rfl, Nat.zero_le _⟩
  | _, .bool _, _ => ⟨rfl, Nat.zero_le _⟩
  | _, .int i, h => ⟨by unfold shw at h; simpa [PyData.showable] using h, Nat.zero_le _⟩
  | _, .str _, _ => ⟨rfl, Nat.zero_le _⟩
  | n, .dict kvs, h => by
    have : kvs = [] := by unfold shw at h; exact List.isEmpty_iff.mp h
    subst this
    exact ⟨rfl, by simp [PyData.depth, PyData.depthKv]⟩
  | n + 1, .list xs, h => by
    obtain ⟨h1, h2⟩ := shw_okAll n xs (by unfold shw at h; exact h)
    exact ⟨h1, by simp only [PyData.depth]; omega⟩
  | n + 1, .tuple xs, h => by
    obtain ⟨h1, h2⟩ := shw_okAll n xs (by unfold shw at h; exact h)
    exact ⟨h1, by simp only [PyData.depth]; omega⟩
  | 0, .list _, h => by cases h
  | 0, .tuple _, h => by cases h
theorem shw_okAll : ∀ (n : Nat) (ds : List D), ds.all (shw n) = true → PyData.showableAll ds = true ∧ PyData.depthAll ds ≤ n + 1
  | _, [], _ => ⟨rfl, Nat.zero_le _⟩
  | n, d :: ds, h => by
    rw [List.all_cons, Bool.and_eq_true] at h
    obtain ⟨h1, h2⟩ := shw_ok n d h.1
    obtain ⟨h3, h4⟩ := shw_okAll n ds h.2
    refine ⟨?_, Nat.max_le.mpr ⟨h2, h4⟩⟩
    show (d.showable && PyData.showableAll ds) = true
    rw [h1, h3]; rfl
end
theorem join_len : ∀ ts : List Str, (Str.join ", " ts).length ≤ (ts.map fun t => t.length + 2).sum
  | [] => Nat.zero_le _
  | [x] => by simp [Str.join]
  | x :: y :: r => by
    show (x ++ ", " ++ Str.join ", " (y :: r)).length ≤ _
    rw [strLen_append, strLen_append, List.map_cons, List.sum_cons]
    have := join_len (y :: r)
    have e : (", " : Str).length = 2 := rfl
    omega
theorem textFrom_le : ∀ (ts : List Str) (k : Nat) (acc : Str), (textFrom k acc ts).length ≤ acc.length + (ts.map fun t => t.length + 2).sum
  | [], _, acc => by simp [textFrom]
  | t :: r, k, acc => by
    rw [List.map_cons, List.sum_cons]
    unfold textFrom
    have e : (", " : Str).length = 2 := rfl
    by_cases h : k > 0
    · simp only [h, if_true]
      refine Nat.le_trans (textFrom_le r (k + 1) _) ?_
      rw [strLen_append, strLen_append]
      omega
    · simp only [h, if_false]
      refine Nat.le_trans (textFrom_le r (k + 1) _) ?_
      rw [strLen_append, strLen_append]
      have e0 : (Str.ofString "").length = 0 := rfl
      omega
mutual
theorem siz_ok : ∀ (n : Nat) (d : D), shw n d = true → d.shown.length ≤ siz d
  | _, .none, _ => by decide
  | _, .bool b, _ => by cases b <;> decide
  | _, .int i, h => by
    have h : decide (i.natAbs.log2 < 1920) = true := by unfold shw at h; exact h
    show (Str.ofString (toString i)).length ≤ siz (.int i)
    rw [PySem.ofString_length]
    unfold siz
    split
    · rename_i q
      have := int_text_length_le10 (a := i) (k := 9) (by decide) q
      omega
    · have := int_text_length_le (k := 1920) (by decide) (of_decide_eq_true h)
      omega
  | _, .str _, _ => by unfold siz; exact Nat.le_refl _
  | _, .dict kvs, h => by
    have : kvs = [] := by unfold shw at h; exact List.isEmpty_iff.mp h
    subst this
    decide
  | n + 1, .list xs, h => by
    have := siz_okAll n xs (by unfold shw at h; exact h)
    unfold siz
    show (listText (PyData.shownAll xs)).length ≤ _
    unfold listText
    rw [strLen_append]
    have h2 := textFrom_le (PyData.shownAll xs) 0 "["
    have e : ("[" : Str).length = 1 := rfl
    have e2 : ("]" : Str).length = 1 := rfl
    omega
  | n + 1, .tuple xs, h => by
    have := siz_okAll n xs (by unfold shw at h; exact h)
    unfold siz
    show (tupleText (PyData.shownAll xs)).length ≤ _
    have h2 := join_len (PyData.shownAll xs)
    unfold tupleText
    rw [strLen_append, strLen_append]
    have e : ("(" : Str).length = 1 := rfl
    have e2 : (")" : Str).length = 1 := rfl
    have e3 : (",)" : Str).length = 2 := rfl
    split <;> omega
  | 0, .list _, h => by cases h
  | 0, .tuple _, h => by cases h
theorem siz_okAll : ∀ (n : Nat) (ds : List D), ds.all (shw n) = true → ((PyData.shownAll ds).map fun t => t.length + 2).sum ≤ sizA ds
  | _, [], _ => by unfold sizA; exact Nat.zero_le _
  | n, d :: ds, h => by
    rw [List.all_cons, Bool.and_eq_true] at h
    have h1 := siz_ok n d h.1
    have h2 := siz_okAll n ds h.2
    unfold sizA
    show ((d.shown :: PyData.shownAll ds).map fun t => t.length + 2).sum ≤ _
    rw [List.map_cons, List.sum_cons]
    omega
end
mutual
/-- with empty dicts; all that is read is tracked -/
theorem Dat.readsD {X : Cx} {pins : List (Addr × Obj)} {σ : L2.St} {H : Hp} {s : Shared} (I : Inv X pins σ H s) : ∀ (n : Nat) (d : D) (v : V) (u : Value), shw n d = true → Dat H v d → RelV v u → ∃ as, Reads s.heap u d as ∧ ∀ a ∈ as, H a ≠ none
  | _, .none, _, _, _, h, r => by cases h; cases r; exact ⟨_, .none, fun _ z => nomatch z⟩
  | _, .bool b, _, _, _, h, r => by cases h; cases r; exact ⟨_, .bool b, fun _ z => nomatch z⟩
  | _, .int i, _, _, _, h, r => by cases h; obtain ⟨t, rfl⟩ := r; exact ⟨_, .int i t, fun _ z => nomatch z⟩
  | _, .str x, _, _, _, h, r => by cases h; obtain ⟨t, rfl⟩ := r; exact ⟨_, .str x t, fun _ z => nomatch z⟩
  | _, .dict kvs, _, _, f, h, r => by
    cases h with
    | dic hs =>
      cases r
      obtain ⟨_, _, vs, kv, o, es, ep, e1, e2, e3, _, e5, _⟩ := I.hok _ _ hs
      cases kv
      have e6 : es.toList = [] := by cases hh : es.toList with
        | nil => rfl
        | cons a b => rw [hh] at e5; cases e5
      refine ⟨_, .dict (kvs := []) e1 e2.1 e3 (by rw [e6]; exact .nil) (by rw [e6]; exact .nil), fun a ha => ?_⟩
      simp only [List.append_nil, List.mem_singleton] at ha
      rw [ha, hs]; exact fun z => nomatch z
  | n + 1, .list ds, _, _, f, h, r => by
    cases h with
    | lst hs ha =>
      cases r
      obtain ⟨its, rv, ⟨o, k, ho, hc, _, hd⟩, _⟩ := I.list (SqL.of (K := X.K) hs)
      obtain ⟨as, hr, hn⟩ := Dat.readsDAll I n ds _ its (by unfold shw at f; exact f) ha rv
      refine ⟨_, .list ho hc hd hr, fun a z => ?_⟩
      rcases List.mem_cons.mp z with rfl | z
      · rw [hs]; exact fun z => nomatch z
      · exact hn a z
  | n + 1, .tuple ds, _, _, f, h, r => by
    cases h with
    | tup hs ha =>
      cases r
      obtain ⟨its, rv, ⟨o, ho, hc, k, hd⟩, _⟩ := I.tuple (SqT.of (K := X.K) hs)
      obtain ⟨as, hr, hn⟩ := Dat.readsDAll I n ds _ its (by unfold shw at f; exact f) ha rv
      exact ⟨_, .tuple ho hc hd hr, hn⟩
  | 0, .list _, _, _, f, _, _ => by cases f
  | 0, .tuple _, _, _, f, _, _ => by cases f
theorem Dat.readsDAll {X : Cx} {pins : List (Addr × Obj)} {σ : L2.St} {H : Hp} {s : Shared} (I : Inv X pins σ H s) : ∀ (n : Nat) (ds : List D) (vs : List V) (us : List Value), ds.all (shw n) = true → DatL H vs ds → Vals vs us → ∃ as, ReadsAll s.heap us ds as ∧ ∀ a ∈ as, H a ≠ none
  | _, [], _, _, _, h, r => by cases h; cases r; exact ⟨_, .nil, fun _ z => nomatch z⟩
  | n, d :: ds, _, _, f, h, r => by
    cases h with
    | cons h1 h2 =>
      cases r with
      | cons r1 r2 =>
        rw [List.all_cons, Bool.and_eq_true] at f
        obtain ⟨as, q1, n1⟩ := Dat.readsD I n d _ _ f.1 h1 r1
        obtain ⟨bs, q2, n2⟩ := Dat.readsDAll I n ds _ _ f.2 h2 r2
        exact ⟨_, .cons q1 q2, fun a ha => (List.mem_append.mp ha).elim (n1 a) (n2 a)⟩
end
section
variable {X : Cx} {U : Au} {W : WX} {Φ : Nat → List Ar → Out} {F F' G G' H H' : Hp} {σ : L2.St} {s s' : St} {u u2 : V} {v w : Vl} {a b c : Expr} {ca cb cc : E} {pos p : Pos} {x : Str}
theorem sf_repr (sm : ∃ o, X.K.lookup sysModules = some o) (gd : X.A.guards = some []) (hu : X.A.units + 64 < cLine) : CallR X (.builtin "repr") (rFn .repr) := by
  intro pins s σ H xs us Q I rx h
  obtain ⟨F, x, d, z, rfl, hF, hd, hz, hq⟩ := h
  replace hz : (if showOk d then some (Vl.dat (.str d.shown)) else none) = some z := hz
  split at hz
  · rename_i ok
    cases hz
    unfold showOk at ok
    rw [Bool.and_eq_true] at ok
    have ok2 := of_decide_eq_true ok.2
    obtain ⟨h1, h2⟩ := shw_ok 8 d ok.1
    have h3 := siz_ok 8 d ok.1
    have hsz : d.shown.length ≤ sizeLine := by rw [sizeLine_eq]; omega
    obtain ⟨u, rfl, ru⟩ := vals1 rx
    obtain ⟨as, hr, hn⟩ := (hd.full hF).readsD I 8 d _ _ ok.1 ru
    have fin : ∀ (t : Tok) (s' : Shared), Inv X pins σ H s' → EP X pins σ Q (.str d.shown t) s' := fun t s' J => ⟨.str d.shown, H, J, ⟨t, rfl⟩, hq.at hF (.str _)⟩
    have sys : sysModules ∉ as := fun m => by
      obtain ⟨o, ho⟩ := sm
      exact hn _ m (I.bs _ _ (I.ok.mod.kin _ _ ho)).2
    have ref : ∀ p, u = .ref p → wpAny (model X.prog X.w) X.A (call (.builtin "repr") [u]) (EP X pins σ Q) X.xe s := fun p e => by
      subst e
      exact repr_of_reads' hr h1 (fun _ => sys) gd (by omega) (fun _ _ e => e) (fun h' t tk k => fin _ _ (I.kept k)) hsz
    cases d with
    | none => rw [hd.non] at ru; cases ru; exact PySem.P.repr_of_none (fin _ _ (I.tok _))
    | bool b => rw [hd.bool] at ru; cases ru; exact PySem.P.repr_of_bool (fin _ _ (I.tok _))
    | int i => rw [hd.int] at ru; obtain ⟨t, rfl⟩ := ru; exact PySem.P.repr_of_int (by simpa [PyData.showable] using h1) (fin _ _ (I.tok _))
    | str x => rw [hd.str] at ru; obtain ⟨t, rfl⟩ := ru; exact PySem.P.repr_of_str (fin _ _ (I.tok _)) hsz
    | list ys => obtain ⟨a, vs, rfl, _, _⟩ := hd.list hF; cases ru; exact ref a rfl
    | tuple ys => obtain ⟨a, vs, rfl, _, _⟩ := hd.tuple; cases ru; exact ref a rfl
    | dict ys => cases hr; exact ref _ rfl
  · cases hz
/-! ### is False -/
def rIsF (p : Fn1) : R2 := fun x y H Q => ∃ F d z, y = .bl false ∧ Same F H ∧ DatT F H x d ∧ evFn1 p d = some z ∧ PostP F H z Q
theorem so_isF : OpR X (compareOp .Is) (rIsF .isF) := by
  intro pins s σ H x y v u Q I rx ry h
  obtain ⟨F, d, z, rfl, hF, hd, hz, hq⟩ := h
  cases d with
  | bool b =>
    have hb := hd.bool
    subst hb
    cases hz
    refine op_isBl pins s σ H _ _ v u Q I rx ry ⟨b, false, rfl, rfl, ?_⟩
    have e : decide (b = false) = !b := by cases b <;> rfl
    rw [e]
    exact hq.at hF (.bl _)
  | _ => cases hz
theorem so_notF : OpR X (compareOp .IsNot) (rIsF .notF) := by
  intro pins s σ H x y v u Q I rx ry h
  obtain ⟨F, d, z, rfl, hF, hd, hz, hq⟩ := h
  cases d with
  | bool b =>
    have hb := hd.bool
    subst hb
    cases hz
    refine op_notBl pins s σ H _ _ v u Q I rx ry ⟨b, false, rfl, rfl, ?_⟩
    have e : (!decide (b = false)) = b := by cases b <;> rfl
    rw [e]
    exact hq.at hF (.bl _)
  | _ => cases hz
theorem isF_rel {p : Fn1} {Q : VK} (w' : Wish X.K U W G σ Vl) (hok : ∀ {z : Vl}, w'.P F (.ok z s) → PostP F H z Q) (R : Rep X.K U F G H σ s) (hv : RepV X.K U F G H σ s u v) (hP : w'.P F (fn1 p v s)) (hp : p = .isF ∨ p = .notF) : rIsF p u (.bl false) H Q := by
  rcases scr_or v with hn | ⟨ns, rfl⟩
  · rw [fn1_eq hn] at hP
    cases e : peek s v with
    | none => rw [e] at hP; exact (w'.bad hP).elim
    | some d =>
      rw [e] at hP
      cases q : evFn1 p d with
      | none => simp only [q] at hP; exact (w'.bad hP).elim
      | some z =>
        simp only [q] at hP
        exact ⟨F, d, z, rfl, R.fh, peek_dat R hv e, q, hok hP⟩
  · rcases hp with rfl | rfl <;> exact (w'.bad hP).elim
theorem x_isF {op : CmpOp} {p : Fn1} {j : Nat} {p' : Pos} (hop : OpR X (compareOp op) (rIsF p)) (hp : p = .isF ∨ p = .notF) (ha : PE X a (tE X.K U W Φ ca)) : PE X (.Compare a [op] [.Constant (.bool false) j p'] pos) (tE X.K U W Φ (.fn1 p ca)) ∧ PT X (.Compare a [op] [.Constant (.bool false) j p'] pos) (tT X.K U W Φ (.fn1 p ca)) := by
  constructor
  · refine PE.imp (pe_cmpR hop ha pe_bl rfl) fun σ H Q ⟨F, G, s, R, hP⟩ => ?_
    refine seqE (wE X.K U W G σ Q) R hP fun v s1 u H1 F1 e1 R1 hv hP1 => ?_
    exact isF_rel (wE X.K U W G σ Q) (fun h => postP_of (W := W) R1 h) R1 hv hP1 hp
  · refine PT.imp (pt_cmpR hop ha pe_bl rfl) fun σ H Q ⟨F, G, s, R, hP⟩ => ?_
    refine seqE (wTr X.K U W G σ Q) R hP fun v s1 u H1 F1 e1 R1 hv hP1 => ?_
    exact isF_rel (wTr X.K U W G σ Q) (fun h => postP_tru (W := W) R1 h) R1 hv hP1 hp
/-! ### int(..) -/
theorem sf_int : CallR X (.type "int") (rFn .int) := by
  intro pins s σ H xs us Q I rx h
  obtain ⟨F, x, d, z, rfl, hF, hd, hz, hq⟩ := h
  cases d with
  | bool b =>
    have hb := hd.bool
    subst hb
    cases hz
    exact call_int1 pins s σ H _ _ Q I rx (.inr ⟨b, rfl, hq.at hF (.int _)⟩)
  | int i =>
    have hb := hd.int
    subst hb
    cases hz
    exact call_int1 pins s σ H _ _ Q I rx (.inl ⟨i, rfl, hq.at hF (.int _)⟩)
  | _ => cases hz
end
end Fc

namespace Fc
open PySem PySem.Spec PyProof.Rows L2
/-! ### x[::-1] -/
section
variable {prog : Program} {w : World} {A : Around} {E : Value → Shared → Prop} {s : Shared}
theorem adjust_rev (n : Nat) : Builtin.Slice.sliceAdjust none none (-1) (n : Int) = ((n : Int) - 1, -1) := rfl
theorem places_rev (n : Nat) : Builtin.Slice.slicePlaces ((n : Int) - 1) (-1) (-1) = n := by
  unfold Builtin.Slice.slicePlaces
  rw [if_neg (by decide)]
  by_cases h : (n : Int) - 1 > -1
  · rw [if_pos h]
    show (((n : Int) - 1 - -1 - 1) / 1 + 1).toNat = n
    rw [Int.ediv_one]
    omega
  · rw [if_neg h]
    have : n = 0 := by omega
    subst this; rfl
theorem pick_rev (xs : Array Value) : ((List.range xs.size).filterMap fun (m : Nat) => xs[(((xs.size : Int) - 1) + (m : Int) * (-1)).toNat]?).toArray = xs.toList.reverse.toArray := by
  rw [← PySem.W.krv_pick]
  unfold slicePick
  rw [PySem.W.krv_bounds]
  show _ = ((sliceRange ((xs.size : Int) - 1) (-1) (-1)).filterMap (xs[·]?)).toArray
  rw [PySem.W.krv_sliceRange, List.filterMap_map]
  congr 1
  have aux : ∀ l : List Nat, (∀ m ∈ l, m < xs.size) → (l.filterMap fun (m : Nat) => xs[(((xs.size : Int) - 1) + (m : Int) * (-1)).toNat]?) = l.filterMap ((fun x => xs[x]?) ∘ fun k => xs.size - 1 - k) := by
    intro l
    induction l with
    | nil => intro _; rfl
    | cons m l ih =>
      intro h
      have hm := h m List.mem_cons_self
      rw [List.filterMap_cons, List.filterMap_cons, ih fun k hk => h k (List.mem_cons_of_mem _ hk)]
      have e : (((xs.size : Int) - 1) + (m : Int) * (-1)).toNat = xs.size - 1 - m := by omega
      rw [e]
      rfl
  exact aux _ fun m hm => List.mem_range.mp hm
theorem getItem_tuple_rev {t sl : Addr} {items : Array Value} {vl vu vs : Value} {Q : Value → Shared → Prop} (ht : IsTup s.heap t items) (hs : s.heap.IsSliceOf sl vl vu vs) (pl : IsPart vl none) (pu : IsPart vu none) (ps : IsPart vs (some (-1)))
    (h : Q (.ref s.heap.objs.size) { s with heap := s.heap.push { cls := .type "tuple", data := .seq items.toList.reverse.toArray } }) (hsz : items.size ≤ sizeLine) : wpAny (model prog w) A (getItem (.ref t) (.ref sl)) Q E s := by
  have htake : sizeOk (.seq items.toList.reverse.toArray) := by
    show items.toList.reverse.toArray.size ≤ sizeLine
    rw [List.size_toArray, List.length_reverse, Array.length_toList]
    exact hsz
  obtain ⟨os, hos, hcs, hds⟩ := id hs
  have hTs : s.TypeIs (.ref sl) "slice" := ⟨os, hos, hcs⟩
  unfold getItem
  try with_reducible refine wpAny_holding ?_
  first | refine wpAny_bind (wpAny_pure ?_) | skip
  refine wpAny_bind (wpAny_sequenceKey ht.typeIs (by decide) ?_)
  refine wpAny_bind (wpAny_callSpecial?_slot (name := Str.ofString "__getitem__") ht.typeIs PyProof.Rows.slot_tuple_getitem
    (wpAny_call_entry PyProof.Rows.slot_tuple_getitem ht.typeIs entry_tuple_getitem ?_ (args_tuple_getitem _ _)))
  show wpAny _ _ (Builtin.Tuple.tupleItemsOf (.ref t) >>= _) _ _ s
  refine wpAny_bind (tupleItemsOf_ ht ?_)
  refine wpAny_bind (wpAny_typeOf hTs ?_)
  rw [if_pos (by decide)]
  refine wpAny_bind ?_
  unfold Builtin.Slice.sliceApplied Builtin.Slice.sliceFields
  refine wpAny_bind (wpAny_bind (wpAny_field hos hds (x := vl) rfl (wpAny_bind (wpAny_field hos hds (x := vu) rfl (wpAny_bind (wpAny_field hos hds (x := vs) rfl (wpAny_pure ?_)))))))
  refine wpAny_bind (HT.slicePart_ ps ?_)
  show wpAny _ _ (if ((-1 : Int) == 0) = true then _ else _) _ _ s
  rw [if_neg (by decide)]
  refine wpAny_bind (HT.slicePart_ pl (wpAny_bind (HT.slicePart_ pu (wpAny_bind (wpAny_pure ?_)))))
  show wpAny _ _ (match Builtin.Slice.sliceAdjust none none (-1) (items.size : Int) with | (lo, hi) => pure (lo, (-1 : Int), Builtin.Slice.slicePlaces lo hi (-1))) _ _ s
  rw [adjust_rev]
  show wpAny _ _ (pure ((items.size : Int) - 1, (-1 : Int), Builtin.Slice.slicePlaces ((items.size : Int) - 1) (-1) (-1))) _ _ s
  rw [places_rev]
  refine wpAny_pure ?_
  show wpAny _ _ (if (((items.size : Int) - 1) == 0 && (-1 : Int) == 1 && items.size == items.size) = true then _ else _) _ _ s
  rw [if_neg (by simp), pick_rev]
  first
    | exact wpAny_bind (m := Builtin.Tuple.tupleExact _) (wpAny_newObj_type (wpAny_pure ⟨_, rfl, wpAny_pure h⟩) htake)
    | exact wpAny_bind (m := Builtin.Tuple.tupleExact _) (wpAny_newObj_type (wpAny_bind (wpAny_pure (wpAny_pure ⟨_, rfl, wpAny_pure h⟩))) htake)
    | exact wpAny_bind (wpAny_bind (m := Builtin.Tuple.tupleExact _) (wpAny_newObj_type (wpAny_pure (wpAny_pure ⟨_, rfl, wpAny_pure h⟩)) htake))
    | exact wpAny_bind (wpAny_bind (m := Builtin.Tuple.tupleExact _) (wpAny_newObj_type (wpAny_pure ⟨_, rfl, wpAny_pure h⟩) htake))
end
section
variable {X : Cx} {U : Au} {W : WX} {Φ : Nat → List Ar → Out} {F F' G G' H H' : Hp} {σ : L2.St} {s s' : St} {u u2 : V} {v w : Vl} {a b c : Expr} {ca cb cc : E} {pos p : Pos} {x : Str}
def tRevT (K : PySem.W.Frag) (te : TE) : TE := fun σ H Q => te σ H fun x H1 => ∃ a xs, x = .ref a ∧ ((SqL K H1 a xs ∧ ∀ p, H1 p = none → Q (.ref p) (upd H1 p (.lst xs.reverse))) ∨ (SqT K H1 a xs ∧ ∀ p, H1 p = none → Q (.ref p) (upd H1 p (.tup xs.reverse))))
theorem pe_revT {e : Expr} {te : TE} {k : Nat} {p1 p2 p3 pos : Pos} (he : PE X e te) : PE X (.Subscript e (.Slice none none (some (.UnaryOp .USub (.Constant (.int 1) k p1) p2)) p3) pos) (tRevT X.K te) := by
  refine ⟨fun pins s σ H Q I h => Subscript_ (thn (he.run pins s σ H _ I h) fun v s1 ⟨x, H1, I1, r1, a, xs, ex, q⟩ => ?_)⟩
  subst ex
  cases r1
  have hst : PO X (some (.UnaryOp .USub (.Constant (.int 1) k p1) p2)) (tPart (tUn (rU fun i => .int (-i)) (tC (.int 1)))) := po_some (pe_un un_neg pe_int)
  refine wpAny_Slice (thn (po_none.run pins s1 σ H1 (fun o H2 => o = none ∧ H2 = H1) I1 ⟨rfl, rfl⟩) fun vl s2 ⟨l, H2, I2, pl, el, e2⟩ => ?_)
  subst el e2
  refine thn (po_none.run pins s2 σ H2 (fun o H3 => o = none ∧ H3 = H2) I2 ⟨rfl, rfl⟩) fun vu s3 ⟨u, H3, I3, pu, eu, e3⟩ => ?_
  subst eu e3
  refine thn (hst.run pins s3 σ H3 (fun o H4 => o = some (-1) ∧ H4 = H3) I3 ⟨1, rfl, -1, rfl, rfl, rfl⟩) fun vs s4 ⟨o, H4, I4, ps, eo, e4⟩ => ?_
  subst eo e4
  have I5 : Inv X pins σ H4 { s4 with heap := s4.heap.push { cls := .type "slice", data := .fields #[vl, vu, vs] } } := I4.kept (t' := s4.toks) fun b ob q => Heap.get?_push_of_some _ q
  show wpAny (model X.prog X.w) X.A (subscriptTail e (.Slice none none (some (.UnaryOp .USub (.Constant (.int 1) k p1) p2)) p3) (.ref a) (.ref s4.heap.objs.size)) (EP X pins σ Q) X.xe { s4 with heap := s4.heap.push { cls := .type "slice", data := .fields #[vl, vu, vs] } }
  rcases q with ⟨hx, q⟩ | ⟨hx, q⟩
  · obtain ⟨its, r, ht, hz⟩ := I5.list hx
    refine tail_any (ops := [.ref a, .ref s4.heap.objs.size]) ht.isList.typeIs (PySem.slot_list_getitem.lookup) ?_ (by with_unfolding_all rfl)
    refine wpAny_getItem_list_slice ht.isList (Heap.IsSliceOf.new _ vl vu vs) pl pu ps (by decide) ?_ (by rw [List.size_toArray, ← r.length]; exact hz)
    rw [PySem.W.krv_pick]
    exact ⟨.ref _, _, I5.laid (t' := s4.toks) (o := .lst xs.reverse) (fun b ob q => Heap.get?_push_of_some _ q) (Nat.le_refl _) ⟨by rw [List.length_reverse]; exact hz, _, 0, r.reverse, Heap.get?_push_size _ rfl⟩, rfl, q _ (I5.hok.fresh (Nat.le_refl _))⟩
  · obtain ⟨its, r, ht, hz⟩ := I5.tuple hx
    refine tail_any (ops := [.ref a, .ref s4.heap.objs.size]) ht.typeIs (PyProof.Rows.slot_tuple_getitem.lookup) ?_ (by with_unfolding_all rfl)
    refine getItem_tuple_rev ht (Heap.IsSliceOf.new _ vl vu vs) pl pu ps ?_ (by rw [List.size_toArray, ← r.length]; exact hz)
    exact ⟨.ref _, _, I5.laid (t' := s4.toks) (o := .tup xs.reverse) (fun b ob q => Heap.get?_push_of_some _ q) (Nat.le_refl _) ⟨by rw [List.length_reverse]; exact hz, its.reverse, r.reverse, ⟨_, Heap.get?_push_size _ rfl, rfl, _, rfl⟩⟩, rfl, q _ (I5.hok.fresh (Nat.le_refl _))⟩
theorem xe_rev {k : Nat} {p1 p2 p3 : Pos} (ha : PE X a (tE X.K U W Φ ca)) : PE X (.Subscript a (.Slice none none (some (.UnaryOp .USub (.Constant (.int 1) k p1) p2)) p3) pos) (tE X.K U W Φ (.fn1 .rev ca)) := by
  refine PE.imp (pe_revT ha) fun σ H Q ⟨F, G, s, R, hP⟩ => ?_
  refine seqE (wE X.K U W G σ Q) R hP fun v s1 u H1 F1 e1 R1 hv hP1 => ?_
  rcases scr_or v with hn | ⟨ns, rfl⟩
  · obtain ⟨F, x, d, z, e, hF, hd, hz, hq⟩ := fn1_rel R1 hv hn hP1
    cases e
    cases d with
    | list xs =>
      cases hz
      obtain ⟨p, vs, rfl, h1, h2⟩ := hd.list hF
      exact ⟨p, vs, rfl, .inl ⟨SqL.of h1, fun q hq' => hq.newL hF hq' h2.rev⟩⟩
    | tuple xs =>
      cases hz
      obtain ⟨p, vs, rfl, h1, h2⟩ := hd.tuple
      exact ⟨p, vs, rfl, .inr ⟨SqT.of (hF _ _ h1), fun q hq' => hq.tup hF hq' h2.rev⟩⟩
    | _ => cases hz
  · exact hP1.elim
end
end Fc

namespace Fc
open PySem PySem.Spec PyProof.Rows L2
section
variable {X : Cx} {U : Au} {W : WX} {Φ : Nat → List Ar → Out} {F F' G G' H H' : Hp} {σ : L2.St} {s s' : St} {u u2 : V} {v w : Vl} {a b c : Expr} {ca cb cc : E} {pos p : Pos} {x : Str}
/-! ### in range(..) -/
def rInR (neg : Bool) : R2 := fun x y H Q => ∃ i a lo hi, x = V.int i ∧ y = V.ref a ∧ H a = some (.rng lo hi) ∧ Q (.bl (xor neg (decide (lo ≤ i ∧ i < hi)))) H
theorem op_inR : OpR X (compareOp .In) (rInR false) := by
  intro pins s σ H x y v u Q I rx ry ⟨i, a, lo, hi, e1, e2, ha, q⟩
  rw [Bool.false_xor] at q
  exact op_in_rng pins s σ H x y v u Q I rx ry ⟨i, a, lo, hi, e1, e2, ha, q⟩
theorem op_notInR : OpR X (compareOp .NotIn) (rInR true) := by
  intro pins s σ H x y v u Q I rx ry h
  obtain ⟨i, a, lo, hi, rfl, rfl, ha, q⟩ := h
  obtain ⟨k, rfl⟩ := rx
  obtain rfl : u = Value.ref a := ry
  obtain ⟨t1, t2, t3, ho⟩ := I.hok a _ ha
  show wpAny _ _ (do return Value.bool (!(← contains (Value.ref a) (Value.int i k)))) _ _ s
  refine wpAny_bind (wpAny_contains_slot (T := "range") ⟨_, ho, rfl⟩ F.slot_range_contains (call_meets F.slot_range_contains ⟨_, ho, rfl⟩ F.entry_range_contains (F.args_range_contains_2 _ _) (q_contains a lo hi i t1 t2 t3 k)
    ⟨ho, wpAny_truthy_bool (wpAny_pure ⟨.bl _, H, I, rfl, ?_⟩)⟩))
  rw [place1]
  rw [Bool.true_xor] at q
  exact q
theorem inR_go {op : CmpOp} {neg : Bool} {Q : VK} (w' : Wish X.K U W G σ Vl) (hok : ∀ {F H : Hp} {s : St} {z : Vl}, Rep X.K U F G H σ s → w'.P F (.ok z s) → PostP F H z Q) (R : Rep X.K U F G H σ s) (hP : w'.P F (dE Φ (.inRng neg ca cb cc) s)) :
    tOp (rInR neg) (tE X.K U W Φ ca) (tCB (fun vs H Q => ∃ i j, vs = [V.int i, V.int j] ∧ ∀ p, H p = none → Q (.ref p) (upd H p (.rng i j))) (tCons (tE X.K U W Φ cb) (tCons (tE X.K U W Φ cc) tNil))) σ H Q := by
  refine seqE w' R hP fun v s1 u H1 F1 e1 R1 hv hP1 => ?_
  obtain ⟨i, rfl, hP2⟩ := int_go w' R1 hv hP1
  refine seqE w' R1 hP2 fun v2 s2 u2 H2 F2 e2 R2 hv2 hP3 => ?_
  obtain ⟨l, rfl, hP4⟩ := int_go w' R2 hv2 hP3
  refine seqE w' R2 hP4 fun v3 s3 u3 H3 F3 e3 R3 hv3 hP5 => ?_
  obtain ⟨h, rfl, hP6⟩ := int_go w' R3 hv3 hP5
  refine ⟨l, h, rfl, fun p hp => ⟨i, p, l, h, rfl, rfl, upd_same, ?_⟩⟩
  have g := Grow.laid (F := F3) (o := .rng l h) R3.fh hp
  exact (hok (R3.grow g) hP6).at g.fh (.bl _)
theorem x_inRng {op : CmpOp} {neg : Bool} {lo hi : Expr} {p2 : Pos} (hop : OpR X (compareOp op) (rInR neg)) (hg : Gl X "range") (hm : X.mg "range" = none) (ha : PE X a (tE X.K U W Φ ca)) (hl : PE X lo (tE X.K U W Φ cb)) (hh : PE X hi (tE X.K U W Φ cc)) (s1 : starless lo = true) (s2 : starless hi = true) (hmk : behindInMarks op (.Call (.Name "range" p) [lo, hi] [] p2) = false) :
    PE X (.Compare a [op] [.Call (.Name "range" p) [lo, hi] [] p2] pos) (tE X.K U W Φ (.inRng neg ca cb cc)) ∧ PT X (.Compare a [op] [.Call (.Name "range" p) [lo, hi] [] p2] pos) (tT X.K U W Φ (.inRng neg ca cb cc)) := by
  have rg := pe_callTy (p := p) (pos := p2) cr_range2 hg hm boot_range (pa_cons hl (pa_cons hh pa_nil (starless_eq s2)) (starless_eq s1)) (by decide) (by decide) (starless_eq s1) (backTo_one s2)
  constructor
  · exact PE.imp (pe_cmpR hop ha rg hmk) fun σ H Q ⟨F, G, s, R, hP⟩ => inR_go (op := op) (wE X.K U W G σ Q) (fun R h => postP_of (W := W) R h) R hP
  · exact PT.imp (pt_cmpR hop ha rg hmk) fun σ H Q ⟨F, G, s, R, hP⟩ => inR_go (op := op) (wTr X.K U W G σ Q) (fun R h => postP_tru (W := W) R h) R hP
/-! ### == [] -/
def rNil : R2 := fun x y H Q => ∃ F xs q, Same F H ∧ DatT F H x (.list xs) ∧ y = .ref q ∧ H q = some (.lst []) ∧ PostP F H (.dat (.bool xs.isEmpty)) Q
theorem op_nil (hu : X.A.units + 64 < cLine) : OpR X (compareOp .Eq) rNil := by
  intro pins s σ H x y v u Q I rx ry ⟨F, xs, q, hF, hd, ey, hq, hQ⟩
  subst ey
  cases xs with
  | nil => exact sp_eq hu pins s σ H _ _ v u Q I rx ry ⟨F, .list [], .list [], .dat (.bool true), hF, hd, .lst hq .nil, rfl, hQ⟩
  | cons a r =>
    obtain ⟨p, vs, rfl, h1, h2⟩ := hd.list hF
    obtain rfl : v = Value.ref p := rx
    obtain rfl : u = Value.ref q := ry
    obtain ⟨i1, r1, l1, _⟩ := I.list (SqL.of (K := X.K) h1)
    obtain ⟨i2, r2, l2, _⟩ := I.list (SqL.of (K := X.K) hq)
    refine SeqAt.RcAt.lists_lengths l1.isList l2.isList ?_ (by omega) X.prog X.w _ _ ⟨.bl false, H, I, rfl, hQ.at hF (.bl _)⟩
    rw [List.size_toArray, List.size_toArray, ← r1.length, ← r2.length, h2.length]
    rfl
theorem x_nil {p' : Pos} (hu : X.A.units + 64 < cLine) (ha : PE X a (tE X.K U W Φ ca)) (hmk : behindInMarks .Eq (.List [] p') = false) : PE X (.Compare a [.Eq] [.List [] p'] pos) (tE X.K U W Φ (.fn1 .nil_ ca)) ∧ PT X (.Compare a [.Eq] [.List [] p'] pos) (tT X.K U W Φ (.fn1 .nil_ ca)) := by
  have go : ∀ {σ : L2.St} {F G H : Hp} {s : St} {Q : VK} (w' : Wish X.K U W G σ Vl), (∀ {F H : Hp} {s : St} {z : Vl}, Rep X.K U F G H σ s → w'.P F (.ok z s) → PostP F H z Q) → Rep X.K U F G H σ s → w'.P F (dE Φ (.fn1 .nil_ ca) s) → tOp rNil (tE X.K U W Φ ca) (tLst tNil) σ H Q := by
    intro σ F G H s Q w' hok R hP
    refine seqE w' R hP fun v s1 u H1 F1 e1 R1 hv hP1 => ⟨Nat.zero_le _, fun q hq => ?_⟩
    rcases scr_or v with hn | ⟨ns, rfl⟩
    · rw [fn1_eq hn] at hP1
      cases e : peek s1 v with
      | none => rw [e] at hP1; exact (w'.bad hP1).elim
      | some d =>
        rw [e] at hP1
        have hd := peek_dat R1 hv e
        cases d with
        | list xs =>
          have g := Grow.laid (F := F1) (o := .lst []) R1.fh hq
          refine ⟨F1, xs, q, g.fh, ?_, rfl, upd_same, hok (R1.grow g) hP1⟩
          obtain ⟨p, vs, rfl, h1, h2⟩ := hd.list R1.fh
          exact .lst (g.h _ _ h1) h2
        | _ => exact (w'.bad hP1).elim
    · exact (w'.bad hP1).elim
  constructor
  · exact PE.imp (pe_cmpR (op_nil hu) ha (pe_lst pa_nil) hmk) fun σ H Q ⟨F, G, s, R, hP⟩ => go (wE X.K U W G σ Q) (fun R h => postP_of (W := W) R h) R hP
  · exact PT.imp (pt_cmpR (op_nil hu) ha (pe_lst pa_nil) hmk) fun σ H Q ⟨F, G, s, R, hP⟩ => go (wTr X.K U W G σ Q) (fun R h => postP_tru (W := W) R h) R hP
/-! ### calls by values -/
/-- what is known of a def by its number -/
def FnN (X : Cx) (U : Au) (Φ : Nat → List Ar → Out) (k f : Nat) : Prop := ∃ fd ps, FnG X.prog X.w X.K X.mg X.base (L2N.CX X.prog X.w) k (U.fa f) fd ps (spF X.K U Φ f) ∧ Binds X.K fd ps []
theorem spF_def {f : Nat} {vs : List V} {Q : VK} {E : XK} (h : spF X.K U Φ f vs H Q E) : ∃ as, Φ f as ≠ .bad := by
  obtain ⟨F, as, io, _, _, h⟩ := h
  exact ⟨as, fun z => by rw [z] at h; exact h⟩
theorem run_val {k f : Nat} {es : List Expr} {ces : Es} {pins : List (Addr × Obj)} {sh : Shared} {Q : VK} (tk : L2N.Takes X W) (kp : PySem.W.keepIn X.K (.ref (U.fa f)) = true) (num : ∀ f as, Φ f as ≠ .bad → FnN X U Φ k f) (hr : Room k X.A) (gd : X.A.guards = some [])
    (ha : PA X (a :: es) (tA X.K U W Φ ces)) (hs : starless a = true) (hs2 : es.all starless = true) (I : Inv X pins σ H sh) (R : Rep X.K U F G H σ s) (hP : PostE X.K U W F G σ ((dEs Φ ces s).bind fun vs s1 => callF Φ f vs s1) Q) :
    wpAny (model X.prog X.w) X.A (callWith pos (.ref (U.fa f)) [] (backTo pos (starEach (a :: es) X.env)) []) (EP X pins σ Q) X.xe sh := by
  refine PySem.W.callWith_K (h₀ := X.base) I.ok.mod.kin kp (thn (ha.run pos pins sh σ H _ I (seqA (Q1 := fun us H1 => spF X.K U Φ f us H1 Q (WE W σ)) (wE X.K U W G σ Q) R hP fun vs s1 us H1 F1 e1 R1 hvs hP1 => call_go R1 hvs hP1)) fun us s1 ⟨vs, H1, I1, r, q⟩ => ⟨I1.kIn, ?_⟩) (starless_eq hs) (backTo_many hs2)
  obtain ⟨as, hb⟩ := spF_def q
  obtain ⟨fd, ps, F0, hbi⟩ := num f as hb
  exact runG (E := WE W) F0 hr gd hbi (passN tk σ) I1 r q
theorem xe_callV {k i : Nat} {es : List Expr} {ces : Es} (tk : L2N.Takes X W) (kp : ∀ f, PySem.W.keepIn X.K (.ref (U.fa f)) = true) (num : ∀ f as, Φ f as ≠ .bad → FnN X U Φ k f) (hr : Room k X.A) (gd : X.A.guards = some []) (hN : X.N[i]? = some x) (hv : Vis X.env.scope x) (hdb : (x == ("__debug__" : Str)) = false) (hcd : (x == ("__classdict__" : Str)) = false)
    (ha : PA X (a :: es) (tA X.K U W Φ ces)) (hs : starless a = true) (hs2 : es.all starless = true) : PE X (.Call (.Name x p) (a :: es) [] pos) (tE X.K U W Φ (.callV i ces)) := by
  refine ⟨fun pins s σ H Q I ⟨F, G, st, R, hP⟩ => ?_⟩
  replace hP : PostE X.K U W F G σ (match st[i]? with
    | some (.fn f) => (dEs Φ ces st).bind fun vs s1 => callF Φ f vs s1
    | _ => .bad) Q := hP
  cases e : st[i]? with
  | none => rw [e] at hP; exact hP.elim
  | some b =>
    cases b with
    | fn f =>
      rw [e] at hP
      have hb := R.b i _ e
      cases q : σ[i]? with
      | none => rw [q] at hb; exact hb.elim
      | some o =>
        rw [q] at hb
        cases o with
        | none => exact hb.elim
        | some z =>
          cases z with
          | ref r =>
            cases (show r = U.fa f from hb)
            refine wpAny_Call_Name_kw (thn ((pe_var (pos := p) hN hv hdb hcd).run pins s σ H (fun v H1 => v = .ref (U.fa f) ∧ H1 = H) I ⟨.ref (U.fa f), q, rfl, rfl⟩) fun u s1 ⟨v, H1, I1, r1, q1⟩ => ?_)
            obtain ⟨rfl, rfl⟩ := q1
            cases r1
            exact run_val tk (kp f) num hr gd ha hs hs2 I1 R hP
          | _ => exact hb.elim
    | _ => rw [e] at hP; exact hP.elim
/-- the names of a list display, as defs -/
theorem pa_fns {fs : List Nat} : ∀ {xs : List Str} {ps : List Pos} {fs : List Nat}, xs.length = ps.length → Paired (fun (x : Str) (f : Nat) => Gl X x ∧ X.mg x = some (.ref (U.fa f)) ∧ (x == ("__debug__" : Str)) = false) xs fs → PA X ((xs.zip ps).map fun y => Expr.Name y.1 y.2) (fun _ H Q => Q (fs.map fun f => .ref (U.fa f)) H)
  | [], _, _, _, .nil => pa_nil
  | x :: xs, p :: ps, f :: fs, h, .cons ⟨h1, h2, h3⟩ t => pa_cons (pe_glob h1 h2 (show L2.RelV (.ref (U.fa f)) (Value.ref (U.fa f)) from rfl) h3) (pa_fns (fs := fs) (by simpa using h) t) (starless_eq (e := .Name x p) rfl)
theorem atI_map2 {α β : Type} {g : α → β} {xs : List α} {i : Int} {y : α} (h : L2.atI xs i = some y) : L2.atI (xs.map g) i = some (g y) := by
  unfold L2.atI at h ⊢
  rw [List.length_map]
  cases q : ixN xs.length i with
  | none => rw [q] at h; cases h
  | some j =>
    rw [q] at h
    show (xs.map g)[j]? = _
    rw [List.getElem?_map, show xs[j]? = some y from h]
    rfl
theorem xe_callS {k : Nat} {xs : List Str} {ps : List Pos} {fs : List Nat} {ie : Expr} {p1 p2 : Pos} {es : List Expr} {ces : Es} (tk : L2N.Takes X W) (kp : ∀ f, PySem.W.keepIn X.K (.ref (U.fa f)) = true) (num : ∀ f as, Φ f as ≠ .bad → FnN X U Φ k f) (hr : Room k X.A) (gd : X.A.guards = some [])
    (hl : xs.length = ps.length) (hfs : Paired (fun (x : Str) (f : Nat) => Gl X x ∧ X.mg x = some (.ref (U.fa f)) ∧ (x == ("__debug__" : Str)) = false) xs fs) (hlen : fs.length ≤ 1000) (hi : PE X ie (tE X.K U W Φ ca)) (hpl : PlainIx ie)
    (ha : PA X (a :: es) (tA X.K U W Φ ces)) (hs : starless a = true) (hs2 : es.all starless = true)
    (he : ∀ env, eval (.Call (.Subscript (.List ((xs.zip ps).map fun y => Expr.Name y.1 y.2) p1) ie p2) (a :: es) [] pos) env = (do callWith pos (← eval (.Subscript (.List ((xs.zip ps).map fun y => Expr.Name y.1 y.2) p1) ie p2) env) [] (backTo pos (starEach (a :: es) env)) (backToKw pos (keywordEach [] env)))) :
    PE X (.Call (.Subscript (.List ((xs.zip ps).map fun y => Expr.Name y.1 y.2) p1) ie p2) (a :: es) [] pos) (tE X.K U W Φ (.callS fs ca ces)) := by
  refine ⟨fun pins s σ H Q I ⟨F, G, st, R, hP⟩ => Call_ ?_ (he _)⟩
  have sub := pe_ix (pos := p2) (ix_list (X := X)) (pe_lst (pos := p1) (pa_fns (fs := fs) hl hfs)) hi hpl
  refine thn (sub.run pins s σ H (fun v H1 => ∃ f F1 s1, v = .ref (U.fa f) ∧ Rep X.K U F1 G H1 σ s1 ∧ PostE X.K U W F1 G σ ((dEs Φ ces s1).bind fun vs s2 => callF Φ f vs s2) Q) I ?_) fun u s1 ⟨v, H1, I1, r1, f, F1, s2, ev, R1, hP1⟩ => ?_
  · refine ⟨by rw [List.length_map, sizeLine_eq]; omega, fun q hq => ?_⟩
    have g := Grow.laid (F := F) (o := .lst (fs.map fun f => .ref (U.fa f))) R.fh hq
    have R0 := R.grow g
    have hqF : F q = none := R.fh.free hq
    have hqG : G q = none := R.gh.free hq
    have fr : Free σ st q := fun i b hb ho z => by
      obtain ⟨p', o, z1, z2, _, _⟩ := R.own hb ho
      rw [z] at z1; cases z1
      rw [hq] at z2; cases z2
    have Rh := heldAt_rep R0 (p := q) upd_same hqF hqG fr
    have sm : Same G (fun a => if a = q then upd H q (.lst (fs.map fun f => .ref (U.fa f))) q else G a) := fun a o e => by
      show (if a = q then _ else G a) = some o
      rw [if_neg (fun z => by subst z; rw [hqG] at e; cases e)]
      exact e
    refine ⟨F, _, st, Rh, ?_⟩
    replace hP : PostE X.K U W F G σ ((dE Φ ca st).bind fun v s1 => (intOf v s1).bind fun i s2 => match L2.atI fs i with
      | some f => (dEs Φ ces s2).bind fun vs s3 => callF Φ f vs s3
      | none => .bad) Q := hP
    cases e : dE Φ ca st with
    | bad => rw [e] at hP; exact hP
    | exc c s1 => rw [e] at hP; exact fun H' F' a b => hP H' F' a (b.less sm)
    | ok v s1 =>
      rw [e] at hP
      intro u2 H1 F1 e1 R1 hv
      have R1' := R1.less sm
      have hv' := hv.less sm
      have hP1 : PostE X.K U W F1 G σ ((intOf v s1).bind fun i s2 => match L2.atI fs i with
        | some f => (dEs Φ ces s2).bind fun vs s3 => callF Φ f vs s3
        | none => .bad) Q := PostE.mono hP e1
      obtain ⟨i, rfl, hP2⟩ := int_go (wE X.K U W G σ Q) R1' hv' hP1
      cases z : L2.atI fs i with
      | none => simp only [z] at hP2; exact hP2.elim
      | some f =>
        simp only [z] at hP2
        have hq1 : H1 q = some (.lst (fs.map fun f => .ref (U.fa f))) := R1.gh q _ (by show (if q = q then _ else _) = _; rw [if_pos rfl]; exact upd_same)
        exact ⟨q, _, i, _, rfl, rfl, SqL.of hq1, atI_map2 z, f, F1, s1, rfl, R1', hP2⟩
  · subst ev
    cases r1
    exact run_val tk (kp f) num hr gd ha hs hs2 I1 R1 hP1
end
end Fc

/-! a def called while an exception is handled, which knows the pinned exception -/
namespace Fc
open PySem PySem.Spec PyProof.Rows L2
open L2H (RoomH Hot1 PinOk cxH inv_startH)
section
variable {CX : CXT} {P : Program} {w : World} {K : PySem.W.Frag} {mg : Str → Option Value} {base : Heap} {k : Nat} {x qual : Str} {params : Arguments} {body : List Stmt} {scope : Scope} {dvs : List V} {kws : List (Str × V)} {f : Addr} {fd : FuncData} {N ps : List Str}
theorem hot_run (F : FunD K x qual params body scope dvs kws f fd) (S : FnScope N ps scope) {A : Around} {outer : List Env} {s : Shared} {H : Hp} {args : Args} {us : List Value} {vs : List V} {Q : VK} {E : XK} {p : Addr × Obj}
    (room : RoomH (k + 1) A) (pin : PinOk outer H s p) (env : Env0 P w K mg base A outer s H) (bind : BindsTo s fd args (ps.zip us)) (rel : Vals vs us) (len : vs.length = ps.length)
    (walk : ∀ cdv, RoomH k (A.deeper (envOfC qual scope s.heap.objs.size f cdv)) → ∃ t, PSs (cxH CX P w K mg base N qual scope f cdv A outer s H E p) body t ∧ t { nx := fun _ H' => Q .non H', rt := Q } (L2.start N vs) H) :
    codeAny (model P w) A (.call (.ref f) args) (CR CX outer P w H s Q E) s := by
  obtain ⟨oc, od, dV, kV, doc, pm, an, cdv, ct, osl, rfl, look, code, _, _⟩ := F.ex
  have here : K.In s.heap := env.mod.kin.keeps fun b o e => (env.bs b o e).1
  have noLim : s.heap.NoLimit := env.mod.nolimit.keeps fun b o e => (env.bs b o e).1
  obtain ⟨t, ht, hq⟩ := walk cdv (room.deeper _)
  apply codeAny_call_function room.depth (here _ _ look) rfl S.co S.gen rfl (PySem.W.codeRec_of here code)
  apply bind
  refine wpAny_newFunctionEnv_cells S.kind (fun y hy => ?_) fun e he s1 inC => ?_
  · obtain ⟨n, v⟩ := y
    cases S.par n (List.of_mem_zip hy).1 with
    | inl q => exact .inl q
    | inr q => exact .inr ⟨q, PySem.W.cellsFrom_some _ _ _ (.inl q)⟩
  · subst he
    refine ⟨noLim.keeps inC.toInCall.keep, codeAny_func ?_⟩
    refine wpAny_mono (ht.run [] s1 (L2.start N vs) H _ (inv_startH S pin env len rel inC) hq) (fun fl s' hs => ?_) fun _ _ z => z
    cases fl with
    | ret u => obtain ⟨v, σ', H', J, rv, q⟩ := hs; exact ⟨v, H', J.os, J.bare, J.base, J.hok, rv, q⟩
    | next => obtain ⟨σ', H', J, q⟩ := hs; exact ⟨V.non, H', J.os, J.bare, J.base, J.hok, rfl, q⟩
    | brk => obtain ⟨_, _, _, q⟩ := hs; exact q.elim
    | cont => obtain ⟨_, _, _, q⟩ := hs; exact q.elim
end
/-- what a def promises that is handed the handled exception -/
def HotFn (P : Program) (w : World) (K : PySem.W.Frag) (mg : Str → Option Value) (base : Heap) (ea : Nat → Addr) (nc k : Nat) (f : Addr) (fd : FuncData) (ps : List Str) (m : Nat → Out) : Prop :=
  ∀ (A : Around) (outer : List Env) (s : Shared) (H F : Hp) (args : Args) (us : List Value) (Q : VK) (E : XK) (p : Addr × Obj) (c : Nat), RoomH k A → PinOk outer H s p → Env0 P w K mg base A outer s H → BindsTo s fd args (ps.zip us) → Vals [.ref p.1] us →
    p.2.cls = .ref (ea c) → p.2.dict = none → (∃ vs, p.2.data = .fields vs) → EcOk K ea nc c → Same F H → PostC ⟨fun _ => 0, ea, fun _ _ => False, 0⟩ F H none (m c) Q E → codeAny (model P w) A (.call (.ref f) args) (CR (L2N.CX P w) outer P w H s Q E) s
/-- the call of such a def with the handled exception -/
theorem pe_hotE {X : Cx} {ea : Nat → Addr} {nc k c : Nat} {f : Addr} {fd : FuncData} {ps : List Str} {m : Nat → Out} {n : Str} {q pos : Pos} {e : Expr} {t : TA} {p : Addr × Obj} (F : HotFn X.prog X.w X.K X.mg X.base ea nc k f fd ps m) (lp : ps.length = 1) (room : RoomH k X.A) (hp : p ∈ X.pn)
    (k1 : p.2.cls = .ref (ea c)) (k2 : p.2.dict = none) (k3 : ∃ vs, p.2.data = .fields vs) (ec : EcOk X.K ea nc c) (hg : Gl X n) (hm : X.mg n = some (.ref f)) (hk : PySem.W.keepIn X.K (.ref f) = true) (hb : Binds X.K fd ps []) (ha : PA X [e] t) (hdb : (n == ("__debug__" : Str)) = false)
    (he : starEach [e] X.env = [(false, eval e X.env)]) : PE X (.Call (.Name n q) [e] [] pos) (fun σ H Q => t σ H fun vs H1 => vs = [.ref p.1] ∧ ∃ F, Same F H1 ∧ PostC ⟨fun _ => 0, ea, fun _ _ => False, 0⟩ F H1 none (m c) Q fun _ _ _ => False) := by
  refine ⟨fun pins s σ H Q I h => wpAny_Call_Name_kw (ld_glob I hg hm ?_ hdb)⟩
  apply PySem.W.callWith_K (h₀ := X.base) I.ok.mod.kin hk ?_ he rfl
  refine thn (ha.run pos pins s σ H _ I h) fun us s1 ⟨vs, H1, I1, r, hv, F1, same, post⟩ => ⟨I1.kIn, ?_⟩
  subst hv
  have bs := hb s1 us I1.kIn (by rw [List.append_nil, ← r.length]; exact lp.symm)
  rw [List.append_nil] at bs
  obtain ⟨p1, p2, p3, p4, p5⟩ := I1.pin p (List.mem_append_left _ hp)
  have pin : PinOk X.stack H1 s1 p := ⟨p1, p2, fun z => by
    cases List.mem_cons.mp (I1.stkSub p.1 z) with
    | inl z => exact p3 z
    | inr z => exact p4 z, p5⟩
  refine wpAny_call (codeAny_mono (F X.A X.stack s1 H1 F1 ⟨us, []⟩ us Q _ p c room pin I1.env0 bs r k1 k2 k3 ec same post) fun res s' hq => ?_)
  match res, hq with
  | .error e, ⟨_, _, _, _, _, _, _, _, _, _, _, _, hE⟩ => exact hE.elim
  | .ok (.ret u), hq => exact I1.after hq
  | .ok .next, hq => exact False.elim hq
  | .ok .brk, hq => exact False.elim hq
  | .ok .cont, hq => exact False.elim hq
/-- what is known of a def that is handed the handled exception -/
structure HotAt (X : Cx) (U : Au) (Φ : Nat → List Ar → Out) (nc k f : Nat) (x : Str) : Prop where
  ok : ∃ fd ps, HotFn X.prog X.w X.K X.mg X.base U.ea nc k (U.fa f) fd ps (fun c => Φ f [.exc c]) ∧ ps.length = 1 ∧ Binds X.K fd ps []
  mg : X.mg x = some (.ref (U.fa f))
  kp : PySem.W.keepIn X.K (.ref (U.fa f)) = true
section
variable {X : Cx} {U : Au} {W : WX} {Φ : Nat → List Ar → Out}
theorem y_try {body : List Stmt} {cb : Ss} {j f k nc : Nat} {x n fm : Str} {np q q2 pos pos' pos2 pos3 : Pos} (hs : X.stack = X.env :: X.outer) (hf : X.env.frame = some X.env.locals) (hN : X.N.Nodup) (hj : X.N[j]? = some n) (hln : X.env.scope.names.lookup n = some .local)
    (hx : Names X x (.ref (U.ea 0))) (tk : L2N.Takes X W) (room : RoomH k X.A) (hot : HotAt X U Φ nc k f fm) (ec : ∀ c, c < 17 → EcOk X.K U.ea nc c ∧ PySem.W.exmOne X.K (.ref (U.ea c)) (.ref (U.ea 0)) = some true)
    (hg : Gl X fm) (hdb : (fm == ("__debug__" : Str)) = false) (hd1 : (n == ("__debug__" : Str)) = false) (hd2 : (n == ("__classdict__" : Str)) = false)
    (hb : ∀ (W : WX) (pn : List (Addr × Obj)) (xe : Value → Shared → Prop), L2N.Takes (X.tr pn xe) W → PassesOwn (model X.prog X.w) X.A X.env xe → PSs (X.tr pn xe) body (tSs X.K U W Φ cb)) :
    PS X (.Try body [.ExceptHandler (some (.Name x np)) (some n) [.Return (some (.Call (.Name fm q) [.Name n q2] [] pos2)) pos3] pos'] [] [] pos) (tS X.K U W Φ (.tryRet cb j f)) := by
  obtain ⟨fd, ps, F0, lp, hbi⟩ := hot.ok
  refine PS.imp (L2N.ps_try_as (tb := fun W => tSs X.K U W Φ cb) (ts := fun a cls d D σ H => ∃ c, cls = .ref (U.ea c) ∧ d = none ∧ EcOk X.K U.ea nc c ∧ σ[j]? = some (some (.ref a)) ∧ ∃ F, Same F H ∧ PostC ⟨fun _ => 0, U.ea, fun _ _ => False, 0⟩ F H none (Φ f [.exc c]) D.rt fun _ _ _ => False)
    hs hf hN hj hln hx tk hb fun a oe cls d pn hz hd => ⟨fun pins s σ H D I ⟨c, h1, h2, h3, h4, F, h5, h6⟩ => ?_⟩) fun D σ H ⟨F, G, s, R, hP⟩ => ⟨F, G, s, R, ?_⟩
  · have pe : PE (X.suite a ((a, oe) :: pn)) (.Call (.Name fm q) [.Name n q2] [] pos2) _ := pe_hotE (X := X.suite a ((a, oe) :: pn)) (c := c) (p := (a, oe)) F0 lp ⟨room.dp, room.un⟩ List.mem_cons_self (hz.1.trans h1) (hz.2.1.trans h2) hd h3 hg hot.mg hot.kp hbi
      (pa_cons (pe_var (X := X.suite a ((a, oe) :: pn)) hj (.inl hln) hd1 hd2) pa_nil (starless_eq (e := .Name n q2) rfl)) hdb (starless_eq (e := .Name n q2) rfl)
    exact (pss_cons (ps_ret pe) pss_nil).run pins s σ H D I ⟨_, h4, rfl, F, h5, h6⟩
  · replace hP : PostS X.K U W F G (match dSs Φ cb s with
      | .ok (.ret v) s1 => .ok (.ret v) s1
      | .exc c s1 => match decide (c < 17 ∧ j < s1.length), Φ f [.exc c] with
        | true, .ok v _ => .ok (.ret v) s1
        | _, _ => .bad
      | _ => .bad) D := hP
    cases e : dSs Φ cb s with
    | bad => rw [e] at hP; exact hP
    | ok fl s1 =>
      rw [e] at hP
      cases fl with
      | next => exact hP.elim
      | ret v => exact hP
    | exc c s1 =>
      rw [e] at hP
      intro σ' H' F' a R'
      have hP : PostS X.K U W F G (match decide (c < 17 ∧ j < s1.length), Φ f [.exc c] with
        | true, .ok v _ => .ok (.ret v) s1
        | _, _ => .bad) D := hP
      cases hc : decide (c < 17 ∧ j < s1.length) with
      | false => rw [hc] at hP; exact hP.elim
      | true =>
        rw [hc] at hP
        obtain ⟨c1, c2⟩ := of_decide_eq_true hc
        obtain ⟨e1, e2⟩ := ec c c1
        refine ⟨true, e2, fun _ p hp => ⟨c, rfl, rfl, e1, ?_, F', R'.fh, ?_⟩, fun z => Bool.noConfusion z⟩
        · rw [List.getElem?_set_self (by rw [← R'.len]; exact c2)]
        · cases z : Φ f [.exc c] with
          | bad => rw [z] at hP; exact hP
          | exc c' xs => rw [z] at hP; exact hP.elim
          | ok v xs =>
            rw [z] at hP
            exact fun u H'' F'' g nv => hP u σ' H'' F'' (a.trans g.f) (R'.grow g.grow) (nv.rep R' g.grow)
end
end Fc

/-! is this code that of this text -/
namespace Fc
open PySem PySem.Spec PyProof.Rows L2

/-- the module's names -/
structure Gx where
  fns : List (Str × Nat)
  cls : List (Str × Nat)
  cst : List (Str × Int)
  fre : List Str
  nc : Nat
  hot : List (Str × Nat)
/-- a block's names -/
structure Sc where
  N : List Str
  names : List (Str × NameKind)
  raw : List (Str × NameKind)
  calm : Bool
  top : Bool
def vis (sc : Sc) (x : Str) : Bool := match sc.names.lookup x with
  | some .local => true
  | some .cell => true
  | some .free => true
  | _ => false
def glb (sc : Sc) (x : Str) : Bool := decide (sc.names.lookup x = some .globalImplicit)
def okN (x : Str) : Bool := !(x == ("__debug__" : Str)) && !(x == ("__classdict__" : Str)) && decide (x ≠ ("__name__" : Str))
def blt (g : Gx) (sc : Sc) (x : Str) : Bool := glb sc x && decide (x ∈ g.fre) && okN x
/-- may be given a value -/
def sto (sc : Sc) (x : Str) : Bool := decide (sc.names.lookup x = some .local) || (decide (sc.names.lookup x = some .cell) && decide (sc.raw.lookup x = some .cell))
def slotIs (sc : Sc) (i : Nat) (x : Str) : Bool := decide (sc.N[i]? = some x)

def cstOk : Const → D → Bool
  | .int i, .int j => decide (i = j)
  | .bool i, .bool j => decide (i = j)
  | .none, .none => true
  | .str i, .str j => decide (i = j)
  | _, _ => false
def binOk : Operator → Op2 → Bool
  | .Add, .add => true
  | .Sub, .sub => true
  | .Mult, .mul => true
  | .FloorDiv, .fdiv => true
  | .Mod, .mod => true
  | .Pow, .pow => true
  | .LShift, .shl => true
  | .RShift, .shr => true
  | .BitAnd, .band => true
  | _, _ => false
def cmpOk : CmpOp → Op2 → Bool
  | .Eq, .eq => true
  | .NotEq, .ne => true
  | .Lt, .lt => true
  | .LtE, .le => true
  | .Gt, .gt => true
  | .GtE, .ge => true
  | .In, .isin => true
  | .NotIn, .notin => true
  | _, _ => false
def fn1N : Fn1 → Option Str
  | .len => some "len"
  | .tuple => some "tuple"
  | .list => some "list"
  | .sum => some "sum"
  | .max => some "max"
  | .min => some "min"
  | .all => some "all"
  | .any => some "any"
  | .repr => some "repr"
  | .int => some "int"
  | _ => none
def fn1Calm : Fn1 → Bool
  | .sum => true
  | .max => true
  | .min => true
  | .all => true
  | .any => true
  | .repr => true
  | _ => false
def fn2N : Fn2 → Option Str
  | .max => some "max"
  | .min => some "min"
  | _ => none
def mtN : Fn2 → Option Str
  | .count => some "count"
  | .index => some "index"
  | _ => none
def tyN : Ty → Option Str
  | .int => some "int"
  | .bool => some "bool"
  | .str => some "str"
  | .list => some "list"
  | .tuple => some "tuple"
  | .dict => some "dict"
  | _ => none
def tyOk (g : Gx) (sc : Sc) (t : Ty) : Expr → Bool
  | .Name x _ => match t with
    | .cls c => glb sc x && okN x && decide (g.cls.lookup x = some c) && decide (c < g.nc)
    | .valueError => blt g sc x && decide (x = ("ValueError" : Str))
    | t => blt g sc x && decide (tyN t = some x)
  | _ => false
def notSet : Expr → Bool
  | .Set .. => false
  | _ => true
def notSlice : Expr → Bool
  | .Slice .. => false
  | _ => true
def notComp : Expr → Bool
  | .ListComp .. => false
  | .SetComp .. => false
  | .DictComp .. => false
  | _ => true
def tgOk (sc : Sc) : Tg → Expr → Bool
  | .name i, .Name x _ => slotIs sc i x && sto sc x
  | .names is, .Tuple es _ _ => go is es && sc.calm
  | _, _ => false
where go : List Nat → List Expr → Bool
  | [], [] => true
  | i :: is, .Name x _ :: es => slotIs sc i x && sto sc x && go is es
  | _, _ => false
/-- the names of a comprehension's block -/
def blkSc (sc : Sc) (scope : Scope) : Sc := ⟨sc.N, scope.names.map fun (n, k) => if (k == .free && sc.names.lookup n == some .cell) then (n, .cell) else (n, k), scope.names, sc.calm, false⟩
def ownP (N : List Str) (own : List Nat) : List (Str × Nat) := own.map fun i => (N[i]?.getD "", i)
def blkOk (sc : Sc) (scope : Scope) (own : List Nat) : Bool := sc.calm && blkC sc.N ⟨.function, sc.names, false, false, []⟩ scope (ownP sc.N own)

/-- names that hold these defs -/
def fnsOk (g : Gx) (sc : Sc) : List Nat → List Expr → Bool
  | [], [] => true
  | f :: fs, .Name x _ :: es => glb sc x && okN x && decide (g.fns.lookup x = some f) && fnsOk g sc fs es
  | _, _ => false
mutual
def ckE (g : Gx) : Nat → Sc → E → Expr → Bool
  | 0, _, _, _ => false
  | n + 1, sc, c, e => match e with
    | .BoolOp op vs p => match vs with
      | [] => false
      | [x] => ckE g n sc c x
      | x :: y :: r => match op with
        | .And => match c with
          | .and_ a b => ckE g n sc a x && ckE g n sc b (.BoolOp .And (y :: r) p)
          | _ => false
        | .Or => match c with
          | .or_ a b => ckE g n sc a x && ckE g n sc b (.BoolOp .Or (y :: r) p)
          | _ => false
    | .Compare l ops rs _ => ckC g n sc c l ops rs
    | .Constant k _ _ => match c with
      | .cst d => cstOk k d
      | _ => false
    | .Name x _ => match c with
      | .var i => vis sc x && slotIs sc i x && okN x
      | .gfn f => glb sc x && okN x && decide (g.fns.lookup x = some f)
      | .cst (.int i) => glb sc x && okN x && decide (g.cst.lookup x = some i)
      | _ => false
    | .BinOp a op b _ => match c with
      | .op2 p ca cb => binOk op p && ckE g n sc ca a && ckE g n sc cb b
      | _ => false
    | .UnaryOp op a _ => match op with
      | .Not => match c with
        | .not_ ca => ckE g n sc ca a
        | _ => false
      | .USub => match c with
        | .fn1 .neg ca => ckE g n sc ca a
        | _ => false
      | _ => false
    | .IfExp t a b _ => match c with
      | .ite_ cc ca cb => ckT g n sc cc t && ckE g n sc ca a && ckE g n sc cb b
      | _ => false
    | .List es _ => match c with
      | .lst ces => ckEs g n sc ces es
      | _ => false
    | .Tuple es _ _ => match c with
      | .tup ces => ckEs g n sc ces es
      | _ => false
    | .Dict ks vs _ => match c with
      | .emp => ks.isEmpty && vs.isEmpty
      | _ => false
    | .Subscript a sl _ => match c with
      | .fn1 .rev ca => match sl with
        | .Slice none none (some (.UnaryOp .USub (.Constant (.int 1) _ _) _)) _ => ckE g n sc ca a
        | _ => false
      | .op2 .ix ca cb => notSlice sl && ckE g n sc ca a && ckE g n sc cb sl
      | .slcL ca cl => match sl with
        | .Slice (some l) none none _ => ckE g n sc ca a && ckE g n sc cl l
        | _ => false
      | .slcU ca cl => match sl with
        | .Slice none (some l) none _ => ckE g n sc ca a && ckE g n sc cl l
        | _ => false
      | .slcB ca cl ch => match sl with
        | .Slice (some l) (some h) none _ => ckE g n sc ca a && ckE g n sc cl l && ckE g n sc ch h
        | _ => false
      | _ => false
    | .ListComp elt gens scope _ => ckL g n sc c elt gens scope
    | .Call f args kws pos => match kws with
      | [] => match f with
        | .Name x _ => match c with
          | .fn1 p ca => match args with
            | [a] => decide (fn1N p = some x) && blt g sc x && (!fn1Calm p || sc.calm) && starless a && ckE g n sc ca a
            | _ => false
          | .fn2 p ca cb => match args with
            | [a, b] => decide (fn2N p = some x) && blt g sc x && sc.calm && starless a && starless b && ckE g n sc ca a && ckE g n sc cb b
            | _ => false
          | .isi ca [t] => match args with
            | [a, te] => decide (x = ("isinstance" : Str)) && blt g sc x && starless a && starless te && ckE g n sc ca a && tyOk g sc t te
            | _ => false
          | .isi ca [t1, t2] => match args with
            | [a, .Tuple [te1, te2] _ _] => decide (x = ("isinstance" : Str)) && blt g sc x && starless a && starless te1 && starless te2 && ckE g n sc ca a && plainTy t1 && plainTy t2 && tyOk g sc t1 te1 && tyOk g sc t2 te2
            | _ => false
          | .call fi ces => match args with
            | a :: es => glb sc x && okN x && decide (g.fns.lookup x = some fi) && sc.calm && starless a && es.all starless && ckEs g n sc ces (a :: es)
            | _ => false
          | .callIo fi i ces => match args with
            | .Name y _ :: es => glb sc x && okN x && decide (g.fns.lookup x = some fi) && sc.calm && vis sc y && slotIs sc i y && okN y && es.all starless && ckEs g n sc ces es
            | _ => false
          | .callV i ces => match args with
            | a :: es => vis sc x && slotIs sc i x && okN x && sc.calm && starless a && es.all starless && ckEs g n sc ces (a :: es)
            | _ => false
          | _ => false
        | .Subscript (.List ns _) ie _ => match c with
          | .callS fs ca ces => match args with
            | a :: es => fnsOk g sc fs ns && decide (fs.length ≤ 1000) && notSlice ie && sc.calm && starless a && es.all starless && ckE g n sc ca ie && ckEs g n sc ces (a :: es)
            | _ => false
          | _ => false
        | .Attribute o m ap => match c with
          | .mth p co cb => match args with
            | [b] => decide (mtN p = some m) && attrPlain o && (ap.endLine == pos.line) && starless b && ckE g n sc co o && ckE g n sc cb b
            | _ => false
          | _ => false
        | _ => false
      | _ => false
    | _ => false
def ckC (g : Gx) : Nat → Sc → E → Expr → List CmpOp → List Expr → Bool
  | 0, _, _, _, _, _ => false
  | n + 1, sc, c, l, ops, rs => match ops with
    | [op] => match rs with
      | [r] => match c with
        | .fn1 .isN ca => (match op with
          | .Is => (match r with
            | .Constant .none _ _ => true
            | _ => false)
          | _ => false) && ckE g n sc ca l
        | .fn1 .notN ca => (match op with
          | .IsNot => (match r with
            | .Constant .none _ _ => true
            | _ => false)
          | _ => false) && ckE g n sc ca l
        | .fn1 .isT ca => (match op with
          | .Is => (match r with
            | .Constant (.bool true) _ _ => true
            | _ => false)
          | _ => false) && ckE g n sc ca l
        | .fn1 .notT ca => (match op with
          | .IsNot => (match r with
            | .Constant (.bool true) _ _ => true
            | _ => false)
          | _ => false) && ckE g n sc ca l
        | .fn1 .isF ca => (match op with
          | .Is => (match r with
            | .Constant (.bool false) _ _ => true
            | _ => false)
          | _ => false) && ckE g n sc ca l
        | .fn1 .notF ca => (match op with
          | .IsNot => (match r with
            | .Constant (.bool false) _ _ => true
            | _ => false)
          | _ => false) && ckE g n sc ca l
        | .fn1 .nil_ ca => (match op with
          | .Eq => (match r with
            | .List [] _ => !behindInMarks op r
            | _ => false)
          | _ => false) && ckE g n sc ca l
        | .inRng neg ca cb cc => (match r with
          | .Call (.Name x _) [lo, hi] [] _ => decide (x = ("range" : Str)) && blt g sc x && starless lo && starless hi && !behindInMarks op r && (match op with
            | .In => !neg
            | .NotIn => neg
            | _ => false) && ckE g n sc cb lo && ckE g n sc cc hi
          | _ => false) && ckE g n sc ca l
        | .op2 p ca cb => cmpOk op p && !behindInMarks op r && ckE g n sc ca l && ckE g n sc cb r
        | _ => false
      | _ => false
    | [o1, o2] => match rs with
      | [r1, r2] => match c with
        | .chain p q ca cb cc => cmpOk o1 p && cmpOk o2 q && !lastMarks [o1, o2] [r1, r2] && ckE g n sc ca l && ckE g n sc cb r1 && ckE g n sc cc r2
        | _ => false
      | _ => false
    | _ => false
def ckT (g : Gx) : Nat → Sc → E → Expr → Bool
  | 0, _, _, _ => false
  | n + 1, sc, c, e => match e with
    | .UnaryOp .Not a _ => match c with
      | .not_ ca => ckT g n sc ca a
      | _ => false
    | .BoolOp op vs p => ckW g n sc c op vs
    | .Compare l ops rs _ => ckC g n sc c l ops rs
    | .IfExp .. => false
    | e => plainT e && ckE g n sc c e
def ckW (g : Gx) : Nat → Sc → E → BoolOp → List Expr → Bool
  | 0, _, _, _, _ => false
  | n + 1, sc, c, op, vs => match vs with
    | [] => false
    | [x] => ckT g n sc c x
    | x :: y :: r => match op with
      | .And => match c with
        | .and_ a b => ckT g n sc a x && ckW g n sc b .And (y :: r)
        | _ => false
      | .Or => match c with
        | .or_ a b => ckT g n sc a x && ckW g n sc b .Or (y :: r)
        | _ => false
def ckEs (g : Gx) : Nat → Sc → Es → List Expr → Bool
  | 0, _, _, _ => false
  | n + 1, sc, ces, es => match ces with
    | .nil => es.isEmpty
    | .cons c cs => match es with
      | e :: es => starless e && ckE g n sc c e && ckEs g n sc cs es
      | [] => false
def ckIt (g : Gx) : Nat → Sc → It → Expr → Expr → Bool
  | 0, _, _, _, _ => false
  | n + 1, sc, ci, tg, e => match ci with
    | .wip _ ci => ckIt g n sc ci tg e
    | .of c => ckE g n sc c e
    | .rng1 ca => match e with
      | .Call (.Name x _) [a] [] _ => decide (x = ("range" : Str)) && blt g sc x && starless a && ckE g n sc ca a
      | _ => false
    | .rng2 ca cb => match e with
      | .Call (.Name x _) [a, b] [] _ => decide (x = ("range" : Str)) && blt g sc x && starless a && starless b && ckE g n sc ca a && ckE g n sc cb b
      | _ => false
    | .enum ca => match e with
      | .Call (.Name x _) [a] [] _ => decide (x = ("enumerate" : Str)) && (match tg with
        | .Tuple .. => true
        | _ => false) && blt g sc x && starless a && ckE g n sc ca a
      | _ => false
    | .zip ca cb => match e with
      | .Call (.Name x _) [a, b] [] _ => decide (x = ("zip" : Str)) && (match tg with
        | .Tuple .. => true
        | _ => false) && blt g sc x && starless a && starless b && ckE g n sc ca a && ckE g n sc cb b
      | _ => false
    | _ => false
def ckL (g : Gx) : Nat → Sc → E → Expr → List Comprehension → Scope → Bool
  | 0, _, _, _, _, _ => false
  | n + 1, sc, c, elt, gens, scope => match gens with
    | [⟨tg, iter, ifs, as⟩] => (as == 0) && notSet iter && (match c with
      | .comp ce own t ci => ifs.isEmpty && blkOk sc scope own && (tgIs t).all (fun i => decide (i ∈ own)) && tgOk (blkSc sc scope) t tg && ckIt g n sc ci tg iter && ckE g n (blkSc sc scope) ce elt
      | .compIf ce own t ci cc => match ifs with
        | [cnd] => blkOk sc scope own && (tgIs t).all (fun i => decide (i ∈ own)) && tgOk (blkSc sc scope) t tg && ckIt g n sc ci tg iter && ckE g n (blkSc sc scope) ce elt && ckT g n (blkSc sc scope) cc cnd
        | _ => false
      | _ => false)
    | _ => false
end
end Fc

/-! the check is right: expressions -/
namespace Fc
open PySem PySem.Spec PyProof.Rows L2

structure GOk (g : Gx) (U : Au) (Φ : Nat → List Ar → Out) (k : Nat) (X : Cx) : Prop where
  fns : ∀ x f, g.fns.lookup x = some f → FnAt X U Φ k f x
  cst : ∀ x i, g.cst.lookup x = some i → ∃ t, X.mg x = some (.int i t)
  cls : ∀ x c, g.cls.lookup x = some c → EcAt X U c x
  fre : ∀ x, x ∈ g.fre → X.mg x = none
  hot : ∀ x f, g.hot.lookup x = some f → HotAt X U Φ g.nc k f x
  kpf : ∀ f, PySem.W.keepIn X.K (.ref (U.fa f)) = true
  num : ∀ f as, Φ f as ≠ .bad → FnN X U Φ k f
  sm : ∃ o, X.K.lookup sysModules = some o
  ec : g.hot.isEmpty = false → ∀ c, c < 17 → EcOk X.K U.ea g.nc c ∧ PySem.W.exmOne X.K (.ref (U.ea c)) (.ref (U.ea 0)) = some true
def gokNum (X : Cx) (U : Au) (Φ : Nat → List Ar → Out) (k : Nat) : Prop := ∀ f as, Φ f as ≠ .bad → FnN X U Φ k f
structure CxOk (g : Gx) (sc : Sc) (U : Au) (W : WX) (Φ : Nat → List Ar → Out) (k : Nat) (X : Cx) : Prop where
  N : X.N = sc.N
  nd : X.N.Nodup
  nm : X.env.scope.names = sc.names
  kd : X.env.scope.kind = .function
  calm : X.calm = sc.calm
  hu : X.A.units + 64 < cLine
  room : sc.calm = true → Room k X.A
  gd : sc.calm = true → X.A.guards = some []
  top : sc.top = true → X.stack = X.env :: X.outer ∧ X.env.frame = some X.env.locals
  fn : ∀ x, sc.raw.lookup x = some .cell → X.fn x = true
  tk : L2N.Takes X W
  po : PassesOwn (model X.prog X.w) X.A X.env X.xe
  gl : GOk g U Φ k X
  px : PxOk X U g.nc
  pxc : sc.calm = true → ∀ q c, ¬ U.px q c

section
variable {g : Gx} {sc : Sc} {U : Au} {W : WX} {Φ : Nat → List Ar → Out} {k : Nat} {X : Cx} {x : Str} {pos : Pos}
theorem CxOk.gl' (o : CxOk g sc U W Φ k X) (h : glb sc x = true) : Gl X x := by
  have := of_decide_eq_true h
  show X.env.scope.names.lookup x = _
  rw [o.nm]; exact this
theorem okN_of (h : okN x = true) : (x == ("__debug__" : Str)) = false ∧ (x == ("__classdict__" : Str)) = false ∧ x ≠ "__name__" := by
  unfold okN at h
  rw [Bool.and_eq_true, Bool.and_eq_true] at h
  exact ⟨by simpa using h.1.1, by simpa using h.1.2, of_decide_eq_true h.2⟩
theorem CxOk.blt' (o : CxOk g sc U W Φ k X) (h : blt g sc x = true) : Gl X x ∧ X.mg x = none ∧ x ≠ "__name__" ∧ (x == ("__debug__" : Str)) = false := by
  unfold blt at h
  rw [Bool.and_eq_true, Bool.and_eq_true] at h
  obtain ⟨h1, h2, h3⟩ := okN_of h.2
  exact ⟨o.gl' h.1.1, o.gl.fre x (of_decide_eq_true h.1.2), h3, h1⟩
theorem CxOk.vis' (o : CxOk g sc U W Φ k X) (h : vis sc x = true) : Vis X.env.scope x := by
  unfold vis at h
  unfold Vis
  rw [o.nm]
  cases e : sc.names.lookup x with
  | none => rw [e] at h; cases h
  | some kd =>
    rw [e] at h
    cases kd <;> first | exact .inl rfl | exact .inr (.inl rfl) | exact .inr (.inr rfl) | cases h
theorem CxOk.slot' (o : CxOk g sc U W Φ k X) {i : Nat} (h : slotIs sc i x = true) : X.N[i]? = some x := by rw [o.N]; exact of_decide_eq_true h
theorem CxOk.var' (o : CxOk g sc U W Φ k X) {i : Nat} (h1 : vis sc x = true) (h2 : slotIs sc i x = true) (h3 : okN x = true) : PE X (.Name x pos) (tVar i) := by
  obtain ⟨a, b, _⟩ := okN_of h3
  exact pe_var (o.slot' h2) (o.vis' h1) a b
theorem CxOk.sto' (o : CxOk g sc U W Φ k X) (h : sto sc x = true) : Loc X.env.scope x ∧ (X.fn x = true ∨ X.env.scope.names.lookup x = some .local) := by
  unfold sto at h
  unfold L2.Loc
  rw [o.nm]
  rw [Bool.or_eq_true, Bool.and_eq_true] at h
  rcases h with h | ⟨h1, h2⟩
  · exact ⟨.inl (of_decide_eq_true h), .inr (of_decide_eq_true h)⟩
  · exact ⟨.inr (of_decide_eq_true h1), .inl (o.fn x (of_decide_eq_true h2))⟩
theorem CxOk.names' (o : CxOk g sc U W Φ k X) : ∀ {is : List Nat} {es : List Expr}, tgOk.go sc is es = true → ∃ (xs : List Str) (ps : List Pos), es = ((xs.zip ps).map fun y => Expr.Name y.1 y.2) ∧ xs.length = ps.length ∧ Paired (fun (i : Nat) (x : Str) => X.N[i]? = some x ∧ Loc X.env.scope x ∧ (X.fn x = true ∨ X.env.scope.names.lookup x = some .local)) is xs
  | [], [], _ => ⟨[], [], rfl, rfl, .nil⟩
  | i :: is, e :: es, h => by
    cases e with
    | Name y p =>
      unfold tgOk.go at h
      rw [Bool.and_eq_true, Bool.and_eq_true] at h
      obtain ⟨xs, ps, e1, e2, e3⟩ := o.names' h.2
      exact ⟨y :: xs, p :: ps, by rw [e1]; rfl, by rw [List.length_cons, List.length_cons, e2], .cons ⟨o.slot' h.1.1, o.sto' h.1.2⟩ e3⟩
    | _ => unfold tgOk.go at h; cases h
  | [], _ :: _, h => by unfold tgOk.go at h; cases h
  | _ :: _, [], h => by unfold tgOk.go at h; cases h
theorem CxOk.tg' (o : CxOk g sc U W Φ k X) {t : Tg} {e : Expr} (h : tgOk sc t e = true) : PG X e (tG X.K t) := by
  cases t with
  | name i =>
    cases e with
    | Name y p =>
      unfold tgOk at h
      rw [Bool.and_eq_true] at h
      obtain ⟨a, b⟩ := o.sto' h.2
      exact pg_name o.nd (o.slot' h.1) a b
    | _ => unfold tgOk at h; cases h
  | names is =>
    cases e with
    | Tuple es kk p =>
      unfold tgOk at h
      rw [Bool.and_eq_true] at h
      obtain ⟨xs, ps, e1, e2, e3⟩ := o.names' h.1
      subst e1
      exact pg_names (by rw [o.calm]; exact h.2) o.nd e3 e2
    | _ => unfold tgOk at h; cases h
/-! ### is True -/
def rIsT (p : Fn1) : R2 := fun x y H Q => ∃ F d z, y = .bl true ∧ Same F H ∧ DatT F H x d ∧ evFn1 p d = some z ∧ PostP F H z Q
theorem so_isT : OpR X (compareOp .Is) (rIsT .isT) := by
  intro pins s σ H x y v u Q I rx ry h
  obtain ⟨F, d, z, rfl, hF, hd, hz, hq⟩ := h
  cases d with
  | bool b =>
    have hb := hd.bool
    subst hb
    cases hz
    refine op_isBl pins s σ H _ _ v u Q I rx ry ⟨b, true, rfl, rfl, ?_⟩
    have e : decide (b = true) = b := by cases b <;> rfl
    rw [e]
    exact hq.at hF (.bl b)
  | _ => cases hz
theorem so_notT : OpR X (compareOp .IsNot) (rIsT .notT) := by
  intro pins s σ H x y v u Q I rx ry h
  obtain ⟨F, d, z, rfl, hF, hd, hz, hq⟩ := h
  cases d with
  | bool b =>
    have hb := hd.bool
    subst hb
    cases hz
    refine op_notBl pins s σ H _ _ v u Q I rx ry ⟨b, true, rfl, rfl, ?_⟩
    have e : (!decide (b = true)) = !b := by cases b <;> rfl
    rw [e]
    exact hq.at hF (.bl _)
  | _ => cases hz
theorem isT_rel {G F H : Hp} {σ : L2.St} {s : St} {u : V} {v : Vl} {p : Fn1} {Q : VK} (w' : Wish X.K U W G σ Vl) (hok : ∀ {z : Vl}, w'.P F (.ok z s) → PostP F H z Q) (R : Rep X.K U F G H σ s) (hv : RepV X.K U F G H σ s u v) (hP : w'.P F (fn1 p v s)) (hp : p = .isT ∨ p = .notT) : rIsT p u (.bl true) H Q := by
  rcases scr_or v with hn | ⟨ns, rfl⟩
  · rw [fn1_eq hn] at hP
    cases e : peek s v with
    | none => rw [e] at hP; exact (w'.bad hP).elim
    | some d =>
      rw [e] at hP
      cases q : evFn1 p d with
      | none => simp only [q] at hP; exact (w'.bad hP).elim
      | some z =>
        simp only [q] at hP
        exact ⟨F, d, z, rfl, R.fh, peek_dat R hv e, q, hok hP⟩
  · rcases hp with rfl | rfl <;> exact (w'.bad hP).elim
theorem x_isT {a : Expr} {ca : E} {op : CmpOp} {p : Fn1} {j : Nat} {p' : Pos} (hop : OpR X (compareOp op) (rIsT p)) (hp : p = .isT ∨ p = .notT) (ha : PE X a (tE X.K U W Φ ca)) : PE X (.Compare a [op] [.Constant (.bool true) j p'] pos) (tE X.K U W Φ (.fn1 p ca)) ∧ PT X (.Compare a [op] [.Constant (.bool true) j p'] pos) (tT X.K U W Φ (.fn1 p ca)) := by
  constructor
  · refine PE.imp (pe_cmpR hop ha pe_bl rfl) fun σ H Q ⟨F, G, s, R, hP⟩ => ?_
    refine seqE (wE X.K U W G σ Q) R hP fun v s1 u H1 F1 e1 R1 hv hP1 => ?_
    exact isT_rel (wE X.K U W G σ Q) (fun h => postP_of (W := W) R1 h) R1 hv hP1 hp
  · refine PT.imp (pt_cmpR hop ha pe_bl rfl) fun σ H Q ⟨F, G, s, R, hP⟩ => ?_
    refine seqE (wTr X.K U W G σ Q) R hP fun v s1 u H1 F1 e1 R1 hv hP1 => ?_
    exact isT_rel (wTr X.K U W G σ Q) (fun h => postP_tru (W := W) R1 h) R1 hv hP1 hp
/-! ### operators -/
theorem CxOk.bin' (o : CxOk g sc U W Φ k X) : ∀ {op : Operator} {p : Op2}, binOk op p = true → OpR X (binaryOp op) (rOp p) ∧ p ≠ .ix := by
  intro op p h
  match op, p, h with
  | .Add, .add, _ => exact ⟨sp_add, fun z => nomatch z⟩
  | .Sub, .sub, _ => exact ⟨sp_sub, fun z => nomatch z⟩
  | .Mult, .mul, _ => exact ⟨sp_mul, fun z => nomatch z⟩
  | .FloorDiv, .fdiv, _ => exact ⟨sp_fdiv, fun z => nomatch z⟩
  | .Mod, .mod, _ => exact ⟨sp_mod, fun z => nomatch z⟩
  | .Pow, .pow, _ => exact ⟨sp_pow, fun z => nomatch z⟩
  | .LShift, .shl, _ => exact ⟨sp_shl, fun z => nomatch z⟩
  | .RShift, .shr, _ => exact ⟨sp_shr, fun z => nomatch z⟩
  | .BitAnd, .band, _ => exact ⟨sp_band, fun z => nomatch z⟩
theorem CxOk.cmp' (o : CxOk g sc U W Φ k X) : ∀ {op : CmpOp} {p : Op2}, cmpOk op p = true → OpR X (compareOp op) (rOp p) ∧ p ≠ .ix := by
  intro op p h
  match op, p, h with
  | .Eq, .eq, _ => exact ⟨sp_eq o.hu, fun z => nomatch z⟩
  | .NotEq, .ne, _ => exact ⟨sp_ne o.hu, fun z => nomatch z⟩
  | .Lt, .lt, _ => exact ⟨sp_lt o.hu, fun z => nomatch z⟩
  | .LtE, .le, _ => exact ⟨sp_le o.hu, fun z => nomatch z⟩
  | .Gt, .gt, _ => exact ⟨sp_gt o.hu, fun z => nomatch z⟩
  | .GtE, .ge, _ => exact ⟨sp_ge o.hu, fun z => nomatch z⟩
  | .In, .isin, _ => exact ⟨sp_in o.hu, fun z => nomatch z⟩
  | .NotIn, .notin, _ => exact ⟨sp_notin o.hu, fun z => nomatch z⟩
theorem plainIx_of {b : Expr} (h : notSlice b = true) : PlainIx b := by
  intro o i
  cases b <;> first | rfl | cases h
theorem foldSet_of {e : Expr} {env : Env} (h : notSet e = true) : ∀ x, foldedSetIterable e env x = pure x := by
  intro x
  cases e <;> first | rfl | cases h
theorem swaps_of {e : Expr} {t : Option Expr} {l : Nat} {env : Env} (h : notComp e = true) : swapsWith e t l env = pure false := by
  cases e <;> first | rfl | cases h
theorem CxOk.fns' (o : CxOk g sc U W Φ k X) : ∀ {fs : List Nat} {es : List Expr}, fnsOk g sc fs es = true → ∃ (xs : List Str) (ps : List Pos), es = ((xs.zip ps).map fun y => Expr.Name y.1 y.2) ∧ xs.length = ps.length ∧ Paired (fun (x : Str) (f : Nat) => Gl X x ∧ X.mg x = some (.ref (U.fa f)) ∧ (x == ("__debug__" : Str)) = false) xs fs
  | [], [], _ => ⟨[], [], rfl, rfl, .nil⟩
  | f :: fs, e :: es, h => by
    cases e with
    | Name y p =>
      unfold fnsOk at h
      simp only [Bool.and_eq_true] at h
      obtain ⟨xs, ps, e1, e2, e3⟩ := o.fns' h.2
      exact ⟨y :: xs, p :: ps, by rw [e1]; rfl, by rw [List.length_cons, List.length_cons, e2], .cons ⟨o.gl' h.1.1.1, (o.gl.fns _ _ (of_decide_eq_true h.1.2)).mg, (okN_of h.1.1.2).1⟩ e3⟩
    | _ => unfold fnsOk at h; cases h
  | [], _ :: _, h => by unfold fnsOk at h; cases h
  | _ :: _, [], h => by unfold fnsOk at h; cases h
/-! ### blocks -/
theorem ownP_snd (N : List Str) (own : List Nat) : (ownP N own).map (·.2) = own := by
  unfold ownP
  rw [List.map_map]
  exact List.map_id _
theorem CxOk.blk' (o : CxOk g sc U W Φ k X) {scope : Scope} {own : List Nat} (h : blkOk sc scope own = true) : BlkOk X.N X.env.scope scope (ownP sc.N own) ∧ sc.calm = true := by
  unfold blkOk at h
  rw [Bool.and_eq_true] at h
  have b := blkOk_by h.2
  refine ⟨⟨b.kind, b.uniq, by rw [o.N]; exact b.ix, ?_, by rw [o.N]; exact b.own⟩, h.1⟩
  rw [o.nm]
  exact b.free
theorem CxOk.inBlk (o : CxOk g sc U W Φ k X) {scope : Scope} (hk : scope.kind = .function) (hc : sc.calm = true) (s : Shared) (H : Hp) (C : Addr) (cl : List (Str × Addr)) (fp : List Addr) : CxOk g (blkSc sc scope) U W0 Φ k (X.blk s H scope (compEnvC scope cl C X.env) fp) where
  N := o.N
  nd := o.nd
  nm := by
    have e1 : (X.env.scope.kind == ScopeKind.function) = true := by rw [o.kd]; rfl
    have e2 : ∀ n, X.env.kindOf n = sc.names.lookup n := fun n => by show X.env.scope.names.lookup n = _; rw [o.nm]
    show (scope.names.map fun (n, k) => if (k == NameKind.free && X.env.scope.kind == ScopeKind.function && X.env.kindOf n == some NameKind.cell) then (n, NameKind.cell) else (n, k)) = scope.names.map _
    refine List.map_congr_left fun y _ => ?_
    obtain ⟨n, kd⟩ := y
    simp only [e1, e2, Bool.and_true]
  kd := hk
  calm := o.calm
  hu := o.hu
  room := o.room
  gd := o.gd
  top := fun z => Bool.noConfusion z
  fn := fun x hx => by
    have hx : scope.names.lookup x = some .cell := hx
    show (scope.names.lookup x == some NameKind.cell) = true
    rw [hx]; rfl
  tk := fun u s' hx => by
    obtain ⟨_, _, _, _, _, _, _, _, _, _, _, _, _, _, _, _, w⟩ := hx
    exact w.elim
  po := PassesOwn.never
  gl := ⟨fun x f h => ⟨(o.gl.fns x f h).ok, (o.gl.fns x f h).mg, (o.gl.fns x f h).kp⟩, o.gl.cst, fun x c h => ⟨(o.gl.cls x c h).mg, (o.gl.cls x c h).kp, (o.gl.cls x c h).ex, (o.gl.cls x c h).sub, (o.gl.cls x c h).ty⟩, o.gl.fre, fun x f h => ⟨(o.gl.hot x f h).ok, (o.gl.hot x f h).mg, (o.gl.hot x f h).kp⟩, o.gl.kpf, o.gl.num, o.gl.sm, o.gl.ec⟩
  px := fun q c h => (o.pxc hc q c h).elim
  pxc := o.pxc
/-- a class that isinstance is asked of -/
theorem CxOk.ty' (o : CxOk g sc U W Φ k X) {t : Ty} {te : Expr} (h : tyOk g sc t te = true) (hp : plainTy t = true) : PE X te (tC (.ty (tyS t))) := by
  cases te with
  | Name y p =>
    cases t with
    | cls c => cases hp
    | valueError => cases hp
    | _ =>
      unfold tyOk at h
      rw [Bool.and_eq_true] at h
      obtain ⟨h1, h2, h3, h4⟩ := o.blt' h.1
      have e := of_decide_eq_true h.2
      cases e
      first
        | exact pe_bltn h1 h2 PyProof.Rows.boot_int rfl h3 h4
        | exact pe_bltn h1 h2 PyProof.Rows.boot_bool rfl h3 h4
        | exact pe_bltn h1 h2 PyProof.Rows.boot_str rfl h3 h4
        | exact pe_bltn h1 h2 PyProof.Rows.boot_list rfl h3 h4
        | exact pe_bltn h1 h2 PyProof.Rows.boot_tuple rfl h3 h4
        | exact pe_bltn h1 h2 PyProof.Rows.boot_dict rfl h3 h4
  | _ => unfold tyOk at h; cases h
theorem CxOk.isi1 (o : CxOk g sc U W Φ k X) {t : Ty} {a te : Expr} {ca : E} {p : Pos} (hb : blt g sc "isinstance" = true) (ha : PE X a (tE X.K U W Φ ca)) (hs : starless a = true) (hs2 : starless te = true) (h : tyOk g sc t te = true) : PE X (.Call (.Name "isinstance" p) [a, te] [] pos) (tE X.K U W Φ (.isi ca [t])) := by
  obtain ⟨h1, h2, _, _⟩ := o.blt' hb
  cases hp : plainTy t with
  | true => exact xe_isi hp h1 h2 ha hs (o.ty' h hp) hs2
  | false =>
    cases te with
    | Name y q =>
      cases t with
      | cls c =>
        unfold tyOk at h
        simp only [Bool.and_eq_true] at h
        obtain ⟨⟨⟨g1, g2⟩, g3⟩, g4⟩ := h
        have ec := o.gl.cls y c (of_decide_eq_true g3)
        exact xe_isiE (cv := .ref (U.ea c)) (cu := .ref (U.ea c)) o.px h1 h2 ha hs (pe_glob (o.gl' g1) ec.mg rfl (okN_of g2).1) (.own _) hs2 (fun c' e => e.kit c (of_decide_eq_true g4)) hp
      | valueError =>
        unfold tyOk at h
        rw [Bool.and_eq_true] at h
        obtain ⟨g1, g2, g3, g4⟩ := o.blt' h.1
        have e := of_decide_eq_true h.2
        subst e
        exact xe_isiE (cv := .ty "ValueError") (cu := .type "ValueError") o.px h1 h2 ha hs (pe_bltn g1 g2 boot_ValueError rfl g3 g4) (.ty _) hs2 (fun c' e => e.ve) hp
      | _ => cases hp
    | _ => unfold tyOk at h; cases h
end
end Fc

/-! the check is right: the induction -/
namespace Fc
open PySem PySem.Spec PyProof.Rows L2
theorem PT.ofW {X : Cx} {e : Expr} {t : TT} (h : PW X e t) : PT X e t := h.pt
structure Snd (g : Gx) (U : Au) (Φ : Nat → List Ar → Out) (k n : Nat) : Prop where
  e : ∀ (W : WX) (sc : Sc) (c : E) (e : Expr) (X : Cx), CxOk g sc U W Φ k X → ckE g n sc c e = true → PE X e (tE X.K U W Φ c)
  c : ∀ (W : WX) (sc : Sc) (c : E) (l : Expr) (ops : List CmpOp) (rs : List Expr) (X : Cx) (pos : Pos), CxOk g sc U W Φ k X → ckC g n sc c l ops rs = true → PE X (.Compare l ops rs pos) (tE X.K U W Φ c) ∧ PT X (.Compare l ops rs pos) (tT X.K U W Φ c)
  t : ∀ (W : WX) (sc : Sc) (c : E) (e : Expr) (X : Cx), CxOk g sc U W Φ k X → ckT g n sc c e = true → PT X e (tT X.K U W Φ c)
  w : ∀ (W : WX) (sc : Sc) (c : E) (op : BoolOp) (vs : List Expr) (X : Cx) (pos : Pos), CxOk g sc U W Φ k X → ckW g n sc c op vs = true → PW X (.BoolOp op vs pos) (tT X.K U W Φ c)
  es : ∀ (W : WX) (sc : Sc) (c : Es) (e : List Expr) (X : Cx), CxOk g sc U W Φ k X → ckEs g n sc c e = true → PA X e (tA X.K U W Φ c)
  it : ∀ (W : WX) (sc : Sc) (c : It) (tg e : Expr) (X : Cx), CxOk g sc U W Φ k X → ckIt g n sc c tg e = true → PI X tg e (tI X.K U W Φ c)
  l : ∀ (W : WX) (sc : Sc) (c : E) (elt : Expr) (gens : List Comprehension) (scope : Scope) (X : Cx) (pos : Pos), CxOk g sc U W Φ k X → ckL g n sc c elt gens scope = true → PE X (.ListComp elt gens scope pos) (tE X.K U W Φ c) ∧
    ∀ (i : Nat) (y : Str) (py spos : Pos), X.N[i]? = some y → X.env.scope.names.lookup y = some .local → swapsWith (.ListComp elt gens scope pos) (some (.Name y py)) spos.line X.env = pure true → PS X (.Assign [.Name y py] (.ListComp elt gens scope pos) spos) (tS X.K U W Φ (.set i c))
section
variable {g : Gx} {U : Au} {Φ : Nat → List Ar → Out} {k n : Nat} {X : Cx} {W : WX} {sc : Sc}
theorem snd_c (ih : Snd g U Φ k n) (c : E) (l : Expr) (ops : List CmpOp) (rs : List Expr) (pos : Pos) (o : CxOk g sc U W Φ k X) (h : ckC g (n + 1) sc c l ops rs = true) : PE X (.Compare l ops rs pos) (tE X.K U W Φ c) ∧ PT X (.Compare l ops rs pos) (tT X.K U W Φ c) := by
  unfold ckC at h
  split at h
  · rename_i op
    split at h
    · rename_i r
      split at h
      · rename_i ca
        rw [Bool.and_eq_true] at h
        have ha := ih.e W sc ca l X o h.2
        have h := h.1
        split at h
        · split at h
          · exact ⟨xe_isN ha, xt_isN ha⟩
          · cases h
        · cases h
      · rename_i ca
        rw [Bool.and_eq_true] at h
        have ha := ih.e W sc ca l X o h.2
        have h := h.1
        split at h
        · split at h
          · exact ⟨xe_notN ha, xt_notN ha⟩
          · cases h
        · cases h
      · rename_i ca
        rw [Bool.and_eq_true] at h
        have ha := ih.e W sc ca l X o h.2
        have h := h.1
        split at h
        · split at h
          · exact x_isT so_isT (.inl rfl) ha
          · cases h
        · cases h
      · rename_i ca
        rw [Bool.and_eq_true] at h
        have ha := ih.e W sc ca l X o h.2
        have h := h.1
        split at h
        · split at h
          · exact x_isT so_notT (.inr rfl) ha
          · cases h
        · cases h
      · rename_i ca
        rw [Bool.and_eq_true] at h
        have ha := ih.e W sc ca l X o h.2
        have h := h.1
        split at h
        · split at h
          · exact x_isF so_isF (.inl rfl) ha
          · cases h
        · cases h
      · rename_i ca
        rw [Bool.and_eq_true] at h
        have ha := ih.e W sc ca l X o h.2
        have h := h.1
        split at h
        · split at h
          · exact x_isF so_notF (.inr rfl) ha
          · cases h
        · cases h
      · rename_i ca
        rw [Bool.and_eq_true] at h
        have ha := ih.e W sc ca l X o h.2
        have h := h.1
        split at h
        · split at h
          · exact x_nil o.hu ha (by simpa using h)
          · cases h
        · cases h
      · rename_i neg ca cb cc
        rw [Bool.and_eq_true] at h
        have ha := ih.e W sc ca l X o h.2
        have h := h.1
        split at h
        · simp only [Bool.and_eq_true] at h
          obtain ⟨⟨⟨⟨⟨⟨⟨h1, h2⟩, h3⟩, h4⟩, h5⟩, h6⟩, h7⟩, h8⟩ := h
          have e := of_decide_eq_true h1
          subst e
          obtain ⟨b1, b2, _, _⟩ := o.blt' h2
          split at h6
          · have e : neg = false := by simpa using h6
            subst e
            exact x_inRng op_inR b1 b2 ha (ih.e W sc _ _ X o h7) (ih.e W sc _ _ X o h8) h3 h4 (by simpa using h5)
          · have e : neg = true := h6
            subst e
            exact x_inRng op_notInR b1 b2 ha (ih.e W sc _ _ X o h7) (ih.e W sc _ _ X o h8) h3 h4 (by simpa using h5)
          · cases h6
        · cases h
      · rename_i p ca cb
        simp only [Bool.and_eq_true] at h
        obtain ⟨⟨⟨h1, h2⟩, h3⟩, h4⟩ := h
        obtain ⟨a1, a2⟩ := o.cmp' h1
        have hm : behindInMarks op r = false := by simpa using h2
        have ha := ih.e W sc ca l X o h3
        have hb := ih.e W sc cb r X o h4
        exact ⟨xe_cmp a2 a1 ha hb hm, xt_cmp a2 a1 ha hb hm⟩
      · cases h
    · cases h
  · rename_i o1 o2
    split at h
    · rename_i r1 r2
      split at h
      · rename_i p q ca cb cc
        simp only [Bool.and_eq_true] at h
        obtain ⟨⟨⟨⟨⟨h1, h2⟩, h3⟩, h4⟩, h5⟩, h6⟩ := h
        obtain ⟨a1, a2⟩ := o.cmp' h1
        obtain ⟨b1, b2⟩ := o.cmp' h2
        have hm : lastMarks [o1, o2] [r1, r2] = false := by simpa using h3
        have ha := ih.e W sc ca l X o h4
        have hb := ih.e W sc cb r1 X o h5
        have hc := ih.e W sc cc r2 X o h6
        exact ⟨xe_chain a2 b2 a1 b1 ha hb hc hm, xt_chain a2 b2 a1 b1 ha hb hc hm⟩
      · cases h
    · cases h
  · cases h
theorem snd_t (ih : Snd g U Φ k n) (c : E) (e : Expr) (o : CxOk g sc U W Φ k X) (h : ckT g (n + 1) sc c e = true) : PT X e (tT X.K U W Φ c) := by
  unfold ckT at h
  split at h
  · split at h
    · exact xt_not (ih.t W sc _ _ X o h)
    · cases h
  · exact (ih.w W sc _ _ _ X _ o h).pt
  · exact (ih.c W sc _ _ _ _ X _ o h).2
  · cases h
  · rw [Bool.and_eq_true] at h
    exact xt_val (ih.e W sc _ _ X o h.2) h.1
theorem snd_w (ih : Snd g U Φ k n) (c : E) (op : BoolOp) (vs : List Expr) (pos : Pos) (o : CxOk g sc U W Φ k X) (h : ckW g (n + 1) sc c op vs = true) : PW X (.BoolOp op vs pos) (tT X.K U W Φ c) := by
  unfold ckW at h
  split at h
  · cases h
  · cases op with
    | And => exact pw_and1 (ih.t W sc _ _ X o h)
    | Or => exact pw_or1 (ih.t W sc _ _ X o h)
  · split at h
    · split at h
      · rw [Bool.and_eq_true] at h
        exact xw_and (ih.t W sc _ _ X o h.1) (ih.w W sc _ _ _ X pos o h.2)
      · cases h
    · split at h
      · rw [Bool.and_eq_true] at h
        exact xw_or (ih.t W sc _ _ X o h.1) (ih.w W sc _ _ _ X pos o h.2)
      · cases h
theorem snd_es (ih : Snd g U Φ k n) (c : Es) (es : List Expr) (o : CxOk g sc U W Φ k X) (h : ckEs g (n + 1) sc c es = true) : PA X es (tA X.K U W Φ c) := by
  unfold ckEs at h
  split at h
  · cases es with
    | nil => exact xa_nil
    | cons _ _ => cases h
  · split at h
    · simp only [Bool.and_eq_true] at h
      exact xa_cons (ih.e W sc _ _ X o h.1.2) (ih.es W sc _ _ X o h.2) h.1.1
    · cases h
theorem snd_it (ih : Snd g U Φ k n) (c : It) (tg e : Expr) (o : CxOk g sc U W Φ k X) (h : ckIt g (n + 1) sc c tg e = true) : PI X tg e (tI X.K U W Φ c) := by
  unfold ckIt at h
  split at h
  · exact xi_wip (ih.it W sc _ _ _ X o h)
  · exact xi_of (ih.e W sc _ _ X o h)
  · split at h
    · simp only [Bool.and_eq_true] at h
      obtain ⟨⟨⟨h1, h2⟩, h3⟩, h4⟩ := h
      have e := of_decide_eq_true h1
      subst e
      obtain ⟨b1, b2, _, _⟩ := o.blt' h2
      exact xi_rng1 b1 b2 (ih.e W sc _ _ X o h4) h3
    · cases h
  · split at h
    · simp only [Bool.and_eq_true] at h
      obtain ⟨⟨⟨⟨⟨h1, h2⟩, h3⟩, h4⟩, h5⟩, h6⟩ := h
      have e := of_decide_eq_true h1
      subst e
      obtain ⟨b1, b2, _, _⟩ := o.blt' h2
      exact xi_rng2 b1 b2 (ih.e W sc _ _ X o h5) (ih.e W sc _ _ X o h6) h3 h4
    · cases h
  · split at h
    · simp only [Bool.and_eq_true] at h
      obtain ⟨⟨⟨⟨h1, h0⟩, h2⟩, h3⟩, h4⟩ := h
      have e := of_decide_eq_true h1
      subst e
      obtain ⟨b1, b2, _, _⟩ := o.blt' h2
      split at h0
      · exact xi_enum b1 b2 (ih.e W sc _ _ X o h4) h3
      · cases h0
    · cases h
  · split at h
    · simp only [Bool.and_eq_true] at h
      obtain ⟨⟨⟨⟨⟨⟨h1, h0⟩, h2⟩, h3⟩, h4⟩, h5⟩, h6⟩ := h
      have e := of_decide_eq_true h1
      subst e
      obtain ⟨b1, b2, _, _⟩ := o.blt' h2
      split at h0
      · exact xi_zip b1 b2 (ih.e W sc _ _ X o h5) (ih.e W sc _ _ X o h6) h3 h4
      · cases h0
    · cases h
  · cases h
theorem all_mem {is own : List Nat} {N : List Str} (h : is.all (fun i => decide (i ∈ own)) = true) : ∀ i ∈ is, i ∈ (ownP N own).map (·.2) := by
  rw [ownP_snd]
  exact fun i hi => of_decide_eq_true (List.all_eq_true.mp h i hi)
theorem snd_l (ih : Snd g U Φ k n) (c : E) (elt : Expr) (gens : List Comprehension) (scope : Scope) (pos : Pos) (o : CxOk g sc U W Φ k X) (h : ckL g (n + 1) sc c elt gens scope = true) : PE X (.ListComp elt gens scope pos) (tE X.K U W Φ c) ∧
    ∀ (i : Nat) (y : Str) (py spos : Pos), X.N[i]? = some y → X.env.scope.names.lookup y = some .local → swapsWith (.ListComp elt gens scope pos) (some (.Name y py)) spos.line X.env = pure true → PS X (.Assign [.Name y py] (.ListComp elt gens scope pos) spos) (tS X.K U W Φ (.set i c)) := by
  unfold ckL at h
  split at h
  · rename_i tg iter ifs as
    rw [Bool.and_eq_true, Bool.and_eq_true] at h
    obtain ⟨⟨h1, h2⟩, h⟩ := h
    have e1 : as = 0 := by simpa using h1
    subst e1
    split at h
    · rename_i ce own t ci
      simp only [Bool.and_eq_true] at h
      obtain ⟨⟨⟨⟨⟨g1, g2⟩, g3⟩, g4⟩, g5⟩, g6⟩ := h
      have e2 : ifs = [] := List.isEmpty_iff.mp g1
      subst e2
      obtain ⟨bk, cm⟩ := o.blk' g2
      have hc : X.calm = true := by rw [o.calm]; exact cm
      have hi := ih.it W sc ci tg iter X o g5
      have hb := fun s H C cl fp => o.inBlk bk.kind cm s H C cl fp
      have hg := fun s H C cl fp => (hb s H C cl fp).tg' g4
      have he := fun s H C cl fp => ih.e W0 (blkSc sc scope) ce elt _ (hb s H C cl fp) g6
      have a := xe_comp (pos := pos) hc o.nd hi bk (all_mem g3) hg he (foldSet_of h2)
      rw [ownP_snd] at a
      refine ⟨a, fun i y py spos hy hyl hsw => ?_⟩
      have b := y_setLc hc o.nd hy hyl hsw hi bk (all_mem g3) hg he (foldSet_of h2)
      rw [ownP_snd] at b
      exact b
    · rename_i ce own t ci cc
      split at h
      · rename_i cnd
        simp only [Bool.and_eq_true] at h
        obtain ⟨⟨⟨⟨⟨g2, g3⟩, g4⟩, g5⟩, g6⟩, g7⟩ := h
        obtain ⟨bk, cm⟩ := o.blk' g2
        have hc : X.calm = true := by rw [o.calm]; exact cm
        have hi := ih.it W sc ci tg iter X o g5
        have hb := fun s H C cl fp => o.inBlk bk.kind cm s H C cl fp
        have hg := fun s H C cl fp => (hb s H C cl fp).tg' g4
        have he := fun s H C cl fp => ih.e W0 (blkSc sc scope) ce elt _ (hb s H C cl fp) g6
        have ht := fun s H C cl fp => ih.t W0 (blkSc sc scope) cc cnd _ (hb s H C cl fp) g7
        have a := xe_compIf (pos := pos) hc o.nd hi bk (all_mem g3) hg ht he (foldSet_of h2)
        rw [ownP_snd] at a
        refine ⟨a, fun i y py spos hy hyl hsw => ?_⟩
        have b := y_setLcIf hc o.nd hy hyl hsw hi bk (all_mem g3) hg ht he (foldSet_of h2)
        rw [ownP_snd] at b
        exact b
      · cases h
    · cases h
  · cases h
theorem fn1_call (o : CxOk g sc U W Φ k X) {p : Fn1} {x : Str} {a : Expr} {ca : E} {pp pos : Pos} (h1 : fn1N p = some x) (hb : blt g sc x = true) (hc : (!fn1Calm p || sc.calm) = true) (hs : starless a = true) (ha : PE X a (tE X.K U W Φ ca)) : PE X (.Call (.Name x pp) [a] [] pos) (tE X.K U W Φ (.fn1 p ca)) := by
  obtain ⟨b1, b2, b3, b4⟩ := o.blt' hb
  have cm : fn1Calm p = true → X.calm = true := fun z => by rw [o.calm]; rw [z] at hc; simpa using hc
  cases p with
  | len => cases h1; exact xe_len b1 b2 ha hs
  | tuple => cases h1; exact xe_callT1 sf_tuple (by decide) b1 b2 PyProof.Rows.boot_tuple b3 b4 ha hs
  | list => cases h1; exact xe_callT1 sf_list (by decide) b1 b2 PyProof.Rows.boot_list b3 b4 ha hs
  | sum => cases h1; exact xe_call1 (sf_sum (cm rfl)) (by decide) b1 b2 PyProof.Rows.boot_sum b3 b4 ha hs
  | max => cases h1; exact xe_call1 (sf_max (cm rfl)) (by decide) b1 b2 PyProof.Rows.boot_max b3 b4 ha hs
  | min => cases h1; exact xe_call1 (sf_min (cm rfl)) (by decide) b1 b2 PyProof.Rows.boot_min b3 b4 ha hs
  | all => cases h1; exact xe_call1 (sf_all (cm rfl)) (by decide) b1 b2 PyProof.Rows.boot_all b3 b4 ha hs
  | any => cases h1; exact xe_call1 (sf_any (cm rfl)) (by decide) b1 b2 PyProof.Rows.boot_any b3 b4 ha hs
  | repr => cases h1; exact xe_call1 (sf_repr o.gl.sm (o.gd (by simpa [fn1Calm] using hc)) o.hu) (by decide) b1 b2 PyProof.Rows.boot_repr b3 b4 ha hs
  | int => cases h1; exact xe_callT1 sf_int (by decide) b1 b2 PyProof.Rows.boot_int b3 b4 ha hs
  | _ => cases h1
theorem fn2_call (o : CxOk g sc U W Φ k X) {p : Fn2} {x : Str} {a b : Expr} {ca cb : E} {pp pos : Pos} (h1 : fn2N p = some x) (hb : blt g sc x = true) (hc : sc.calm = true) (hs : starless a = true) (hs2 : starless b = true) (ha : PE X a (tE X.K U W Φ ca)) (hb' : PE X b (tE X.K U W Φ cb)) : PE X (.Call (.Name x pp) [a, b] [] pos) (tE X.K U W Φ (.fn2 p ca cb)) := by
  obtain ⟨b1, b2, b3, b4⟩ := o.blt' hb
  have cm : X.calm = true := by rw [o.calm]; exact hc
  cases p with
  | max => cases h1; exact xe_call2 (sf2_max cm) b1 b2 PyProof.Rows.boot_max b3 b4 ha hb' hs hs2
  | min => cases h1; exact xe_call2 (sf2_min cm) b1 b2 PyProof.Rows.boot_min b3 b4 ha hb' hs hs2
  | _ => cases h1
theorem mth_call {p : Fn2} {m : Str} {a b : Expr} {ca cb : E} {apos pos : Pos} (h1 : mtN p = some m) (hs2 : starless b = true) (hat : attrPlain a = true) (hline : (apos.endLine == pos.line) = true) (ha : PE X a (tE X.K U W Φ ca)) (hb : PE X b (tE X.K U W Φ cb)) : PE X (.Call (.Attribute a m apos) [b] [] pos) (tE X.K U W Φ (.mth p ca cb)) := by
  cases p with
  | count => cases h1; exact xe_mth PySem.F.slot_list_count PySem.F.type_list_count sm_count ha hb hs2 hat hline
  | index => cases h1; exact xe_mth PySem.F.slot_list_index PySem.F.type_list_index sm_index ha hb hs2 hat hline
  | _ => cases h1
theorem snd_e (ih : Snd g U Φ k n) (c : E) (e : Expr) (o : CxOk g sc U W Φ k X) (h : ckE g (n + 1) sc c e = true) : PE X e (tE X.K U W Φ c) := by
  cases e with
  | BoolOp op vs p =>
    simp only [ckE] at h
    split at h
    · cases h
    · exact pe_one (ih.e W sc _ _ X o h)
    · split at h
      · split at h
        · rw [Bool.and_eq_true] at h
          exact xe_and (ih.e W sc _ _ X o h.1) (ih.e W sc _ _ X o h.2)
        · cases h
      · split at h
        · rw [Bool.and_eq_true] at h
          exact xe_or (ih.e W sc _ _ X o h.1) (ih.e W sc _ _ X o h.2)
        · cases h
  | Compare l ops rs p => exact (ih.c W sc c l ops rs X p o h).1
  | Constant kk j p =>
    simp only [ckE] at h
    split at h
    · rename_i d
      refine xe_const ?_
      revert h
      unfold cstOk
      split
      · intro h; rw [of_decide_eq_true h]
      · intro h; rw [of_decide_eq_true h]
      · intro _; rfl
      · intro h; rw [of_decide_eq_true h]
      · intro h; cases h
    · cases h
  | Name x p =>
    simp only [ckE] at h
    split at h
    · simp only [Bool.and_eq_true] at h
      obtain ⟨a, b, _⟩ := okN_of h.2
      exact xe_var (o.slot' h.1.2) (o.vis' h.1.1) a b
    · simp only [Bool.and_eq_true] at h
      have f := o.gl.fns _ _ (of_decide_eq_true h.2)
      exact xe_gfn (o.gl' h.1.1) f.mg (okN_of h.1.2).1
    · simp only [Bool.and_eq_true] at h
      obtain ⟨t, hm⟩ := o.gl.cst _ _ (of_decide_eq_true h.2)
      exact xe_glob (v := .int _) (o.gl' h.1.1) hm ⟨t, rfl⟩ (fun F => .int _) (okN_of h.1.2).1
    · cases h
  | BinOp a op b p =>
    simp only [ckE] at h
    split at h
    · simp only [Bool.and_eq_true] at h
      obtain ⟨a1, a2⟩ := o.bin' h.1.1
      exact xe_bin a2 a1 (ih.e W sc _ _ X o h.1.2) (ih.e W sc _ _ X o h.2)
    · cases h
  | UnaryOp op a p =>
    simp only [ckE] at h
    split at h
    · split at h
      · exact xe_not (ih.e W sc _ _ X o h)
      · cases h
    · split at h
      · exact xe_neg (ih.e W sc _ _ X o h)
      · cases h
    · cases h
  | IfExp t a b p =>
    simp only [ckE] at h
    split at h
    · simp only [Bool.and_eq_true] at h
      exact xe_ite (ih.t W sc _ _ X o h.1.1) (ih.e W sc _ _ X o h.1.2) (ih.e W sc _ _ X o h.2)
    · cases h
  | List es p =>
    simp only [ckE] at h
    split at h
    · exact xe_lst (ih.es W sc _ _ X o h)
    · cases h
  | Tuple es j p =>
    simp only [ckE] at h
    split at h
    · exact xe_tup (ih.es W sc _ _ X o h)
    · cases h
  | Dict ks vs p =>
    simp only [ckE] at h
    split at h
    · rw [Bool.and_eq_true] at h
      have e1 := List.isEmpty_iff.mp h.1
      have e2 := List.isEmpty_iff.mp h.2
      subst e1 e2
      exact xe_emp
    · cases h
  | Subscript a sl p =>
    simp only [ckE] at h
    split at h
    · split at h
      · exact xe_rev (ih.e W sc _ _ X o h)
      · cases h
    · simp only [Bool.and_eq_true] at h
      exact xe_ix (ih.e W sc _ _ X o h.1.2) (ih.e W sc _ _ X o h.2) (plainIx_of h.1.1)
    · split at h
      · rw [Bool.and_eq_true] at h
        exact xe_slcL (ih.e W sc _ _ X o h.1) (ih.e W sc _ _ X o h.2)
      · cases h
    · split at h
      · rw [Bool.and_eq_true] at h
        exact xe_slcU (ih.e W sc _ _ X o h.1) (ih.e W sc _ _ X o h.2)
      · cases h
    · split at h
      · simp only [Bool.and_eq_true] at h
        exact xe_slcB (ih.e W sc _ _ X o h.1.1) (ih.e W sc _ _ X o h.1.2) (ih.e W sc _ _ X o h.2)
      · cases h
    · cases h
  | ListComp elt gens scope p => exact (ih.l W sc c elt gens scope X p o h).1
  | Call f args kws pos =>
    simp only [ckE] at h
    split at h
    · split at h
      · split at h
        · split at h
          · simp only [Bool.and_eq_true] at h
            obtain ⟨⟨⟨⟨h1, h2⟩, h3⟩, h4⟩, h5⟩ := h
            exact fn1_call o (of_decide_eq_true h1) h2 h3 h4 (ih.e W sc _ _ X o h5)
          · cases h
        · split at h
          · simp only [Bool.and_eq_true] at h
            obtain ⟨⟨⟨⟨⟨⟨h1, h2⟩, h3⟩, h4⟩, h5⟩, h6⟩, h7⟩ := h
            obtain ⟨b1, b2, b3, b4⟩ := o.blt' h2
            have cm : X.calm = true := by rw [o.calm]; exact h3
            exact fn2_call o (of_decide_eq_true h1) h2 h3 h4 h5 (ih.e W sc _ _ X o h6) (ih.e W sc _ _ X o h7)
          · cases h
        · split at h
          · simp only [Bool.and_eq_true] at h
            obtain ⟨⟨⟨⟨⟨h1, h2⟩, h3⟩, h4⟩, h5⟩, h6⟩ := h
            have e := of_decide_eq_true h1
            subst e
            exact o.isi1 h2 (ih.e W sc _ _ X o h5) h3 h4 h6
          · cases h
        · split at h
          · simp only [Bool.and_eq_true] at h
            obtain ⟨⟨⟨⟨⟨⟨⟨⟨⟨h1, h2⟩, h3⟩, h4⟩, h5⟩, h6⟩, h7⟩, h8⟩, h9⟩, h10⟩ := h
            have e := of_decide_eq_true h1
            subst e
            obtain ⟨b1, b2, _, _⟩ := o.blt' h2
            exact xe_isi2 h7 h8 b1 b2 (ih.e W sc _ _ X o h6) h3 (o.ty' h9 h7) (o.ty' h10 h8) h4 h5
          · cases h
        · split at h
          · simp only [Bool.and_eq_true] at h
            obtain ⟨⟨⟨⟨⟨⟨h1, h2⟩, h3⟩, h4⟩, h5⟩, h6⟩, h7⟩ := h
            exact xe_call o.tk (o.gl.fns _ _ (of_decide_eq_true h3)) (o.room h4) (o.gd h4) (o.gl' h1) (okN_of h2).1 (ih.es W sc _ _ X o h7) h5 h6
          · cases h
        · split at h
          · simp only [Bool.and_eq_true] at h
            obtain ⟨⟨⟨⟨⟨⟨⟨⟨h1, h2⟩, h3⟩, h4⟩, h5⟩, h6⟩, h7⟩, h8⟩, h9⟩ := h
            exact xe_callIo o.tk (o.gl.fns _ _ (of_decide_eq_true h3)) (o.room h4) (o.gd h4) (o.gl' h1) (okN_of h2).1 (o.var' h5 h6 h7) (ih.es W sc _ _ X o h9) h8
          · cases h
        · split at h
          · simp only [Bool.and_eq_true] at h
            obtain ⟨⟨⟨⟨⟨⟨h1, h2⟩, h3⟩, h4⟩, h5⟩, h6⟩, h7⟩ := h
            exact xe_callV o.tk o.gl.kpf o.gl.num (o.room h4) (o.gd h4) (o.slot' h2) (o.vis' h1) (okN_of h3).1 (okN_of h3).2.1 (ih.es W sc _ _ X o h7) h5 h6
          · cases h
        · cases h
      · split at h
        · split at h
          · simp only [Bool.and_eq_true] at h
            obtain ⟨⟨⟨⟨⟨⟨⟨h1, h2⟩, h3⟩, h4⟩, h5⟩, h6⟩, h7⟩, h8⟩ := h
            obtain ⟨xs, ps, e1, e2, e3⟩ := o.fns' h1
            subst e1
            exact xe_callS o.tk o.gl.kpf o.gl.num (o.room h4) (o.gd h4) e2 e3 (of_decide_eq_true h2) (ih.e W sc _ _ X o h7) (plainIx_of h3) (ih.es W sc _ _ X o h8) h5 h6 fun _ => rfl
          · cases h
        · cases h
      · split at h
        · split at h
          · simp only [Bool.and_eq_true] at h
            obtain ⟨⟨⟨⟨⟨h1, h2⟩, h3⟩, h4⟩, h5⟩, h6⟩ := h
            exact mth_call (of_decide_eq_true h1) h4 h2 h3 (ih.e W sc _ _ X o h5) (ih.e W sc _ _ X o h6)
          · cases h
        · cases h
      · cases h
    · cases h
  | _ => simp only [ckE] at h; cases h
end
theorem snd (g : Gx) (U : Au) (Φ : Nat → List Ar → Out) (k : Nat) : ∀ n, Snd g U Φ k n
  | 0 => ⟨fun _ _ _ _ _ _ h => (nomatch h), fun _ _ _ _ _ _ _ _ _ h => (nomatch h), fun _ _ _ _ _ _ h => (nomatch h), fun _ _ _ _ _ _ _ _ h => (nomatch h), fun _ _ _ _ _ _ h => (nomatch h), fun _ _ _ _ _ _ _ h => (nomatch h), fun _ _ _ _ _ _ _ _ _ h => (nomatch h)⟩
  | n + 1 => ⟨fun W sc c e X o h => snd_e (snd g U Φ k n) c e o h, fun W sc c l ops rs X pos o h => snd_c (snd g U Φ k n) c l ops rs pos o h, fun W sc c e X o h => snd_t (snd g U Φ k n) c e o h, fun W sc c op vs X pos o h => snd_w (snd g U Φ k n) c op vs pos o h,
    fun W sc c es X o h => snd_es (snd g U Φ k n) c es o h, fun W sc c tg e X o h => snd_it (snd g U Φ k n) c tg e o h, fun W sc c elt gens scope X pos o h => snd_l (snd g U Φ k n) c elt gens scope pos o h⟩
end Fc

/-! statements: the check and that it is right -/
namespace Fc
open PySem PySem.Spec PyProof.Rows L2
/-- how a tuple is stored into several names -/
def swM (nm : List (Str × NameKind)) (ts vs : List Expr) : Option (Option (List Str)) :=
  if !(ts.length == 2 || ts.length == 3) || vs.length != ts.length then some none
  else if (vs.any fun | .Starred .. => true | _ => false) then some none
  else
    let line := (ts.head?.map (·.pos.line)).getD 0
    let names := ts.filterMap fun
      | .Name id pos => if nm.lookup id == some .local && pos.line == line then some id else none
      | _ => none
    if names.length != ts.length || names.eraseDups.length != names.length then some none
    else if vs.all (foldedForSure 8) then some none
    else if vs.all (constantsAlone 8) then none
    else some (some names)
theorem swM_ok {ts vs : List Expr} {k k2 : Nat} {p p2 : Pos} {env : Env} {r : Option (List Str)} (hk : env.scope.kind = .function) (h : swM env.scope.names ts vs = some r) : swappedStores [.Tuple ts k p] (.Tuple vs k2 p2) env = pure r := by
  have hb : (env.blockKind != ScopeKind.function) = false := by unfold Env.blockKind; rw [hk]; rfl
  unfold swM at h
  unfold swappedStores
  simp only [hb, Bool.or_false, Env.kindOf, pure_bind]
  split at h
  · cases h
    rename_i c
    exact if_pos c
  · rename_i c1
    refine (if_neg c1).trans ?_
    split at h
    · cases h
      rename_i c
      exact if_pos c
    · rename_i c2
      refine (if_neg c2).trans ?_
      simp only at h
      split at h
      · cases h
        rename_i c
        exact if_pos c
      · rename_i c3
        refine (if_neg c3).trans ?_
        split at h
        · cases h
          rename_i c
          exact if_pos c
        · rename_i c4
          refine (if_neg c4).trans ?_
          split at h
          · cases h
          · cases h
            rename_i c
            exact if_neg c
def isTup : Expr → Bool
  | .Tuple .. => true
  | _ => false
theorem swNo {ts : List Expr} {k : Nat} {p : Pos} {e : Expr} {env : Env} (h : isTup e = false) : swappedStores [.Tuple ts k p] e env = pure none := by
  cases e <;> first | rfl | cases h
def unpOk (sc : Sc) (ts : List Expr) : Expr → Bool
  | .Tuple vs _ _ => decide (swM sc.names ts vs = some none)
  | _ => true
/-- name = [..] exchanges its stores -/
def lcSw (sc : Sc) (x : Str) (px lp : Pos) (scope : Scope) : Bool := (sc.names.lookup x == some .local) && (px.line == lp.line) && !(scope.names.any fun (n, k) => n == x && (k == .local || k == .cell))
mutual
def ckS (g : Gx) : Nat → Sc → S → Stmt → Bool
  | 0, _, _, _ => false
  | n + 1, sc, c, st => match c with
    | .set i ce => match st with
      | .Assign [.Name x px] e _ => slotIs sc i x && sto sc x && (match e with
        | .ListComp elt gens scope lp => (if lcSw sc x px lp scope then ckL g n sc ce elt gens scope else ckE g n sc ce e)
        | e => notComp e && ckE g n sc ce e)
      | _ => false
    | .unp is ce => match st with
      | .Assign [.Tuple ts _ _] e _ => sc.calm && tgOk.go sc is ts && notComp e && unpOk sc ts e && ckE g n sc ce e
      | _ => false
    | .par i j ca cb => match st with
      | .Assign [.Tuple [.Name x px, .Name y py] _ _] (.Tuple [a, b] _ _) _ => sc.calm && slotIs sc i x && slotIs sc j y && decide (i ≠ j) && decide (sc.names.lookup x = some .local) && decide (sc.names.lookup y = some .local) && starless a && starless b
        && decide (swM sc.names [.Name x px, .Name y py] [a, b] = some (some [x, y])) && ckE g n sc ca a && ckE g n sc cb b
      | _ => false
    | .drop ce => match st with
      | .Expr e _ => notComp e && ckE g n sc ce e
      | _ => false
    | .ret ce => match st with
      | .Return (some e) _ => ckE g n sc ce e
      | .Return none _ => match ce with
        | .cst .none => true
        | _ => false
      | _ => false
    | .ite_ cc ca cb => match st with
      | .If t a b _ => ckT g n sc cc t && ckSs g n sc ca a && ckSs g n sc cb b
      | _ => false
    | .for_ t ci cb => match st with
      | .For tg iter body [] _ => sc.calm && notSet iter && tgOk sc t tg && ckIt g n sc ci tg iter && ckSs g n sc cb body
      | _ => false
    | .while_ cc cb => match st with
      | .While t body [] _ => ckT g n sc cc t && ckSs g n sc cb body
      | _ => false
    | .raise_ c => match st with
      | .Raise (some (.Call (.Name x _) [.Constant (.str _) _ _] [] _)) none _ => sc.calm && glb sc x && okN x && decide (g.cls.lookup x = some c)
      | _ => false
    | .app i ce => match st with
      | .Expr (.Call (.Attribute (.Name x _) m ap) [e] [] cp) _ => decide (m = ("append" : Str)) && vis sc x && slotIs sc i x && okN x && starless e && (ap.endLine == cp.line) && ckE g n sc ce e
      | _ => false
    | .sti i ck ce => match st with
      | .Assign [.Subscript (.Name x _) k _] e _ => notSlice k && vis sc x && slotIs sc i x && okN x && notComp e && ckE g n sc ck k && ckE g n sc ce e
      | _ => false
    | .tryRet cb j f => match st with
      | .Try body [.ExceptHandler (some (.Name x _)) (some y) [.Return (some (.Call (.Name fm _) [.Name y2 _] [] _)) _] _] [] [] _ => sc.calm && sc.top && decide (y = y2) && slotIs sc j y && decide (sc.names.lookup y = some .local) && okN y
        && glb sc x && okN x && decide (g.cls.lookup x = some 0) && glb sc fm && okN fm && decide (g.hot.lookup fm = some f) && ckSs g n sc cb body
      | _ => false
    | _ => false
def ckSs (g : Gx) : Nat → Sc → Ss → List Stmt → Bool
  | 0, _, _, _ => false
  | n + 1, sc, cs, sts => match cs with
    | .nil => sts.isEmpty
    | .cons (.wipe _) cs => ckSs g n sc cs sts
    | .cons c cs => match sts with
      | st :: sts => ckS g n sc c st && ckSs g n sc cs sts
      | [] => false
end
theorem lcSw_ok {sc : Sc} {x : Str} {px lp : Pos} {scope : Scope} {elt : Expr} {gens : List Comprehension} {l : Nat} {env : Env} (hk : env.scope.kind = .function) (hn : env.scope.names = sc.names) : swapsWith (.ListComp elt gens scope lp) (some (.Name x px)) l env = pure (lcSw sc x px lp scope) := by
  have hb : (env.blockKind == ScopeKind.function) = true := by unfold Env.blockKind; rw [hk]; rfl
  unfold swapsWith lcSw
  simp only [hb, Env.kindOf, hn, Bool.true_and, Expr.pos]
theorem lcSw_local {sc : Sc} {x : Str} {px lp : Pos} {scope : Scope} (h : lcSw sc x px lp scope = true) : sc.names.lookup x = some .local := by
  unfold lcSw at h
  rw [Bool.and_eq_true, Bool.and_eq_true] at h
  exact eq_of_beq h.1.1
theorem sole_of {t e : Expr} {l : Nat} {env : Env} (h : notComp e = true) : swapsWithSole [t] e l env = pure false := by
  unfold swapsWithSole
  exact swaps_of h
theorem unp_sw {ts : List Expr} {k : Nat} {p : Pos} {e : Expr} {env : Env} {sc : Sc} (hk : env.scope.kind = .function) (hn : env.scope.names = sc.names) (h : unpOk sc ts e = true) : swappedStores [.Tuple ts k p] e env = pure none := by
  cases e with
  | Tuple vs kk pp =>
    refine swM_ok hk ?_
    rw [hn]
    exact of_decide_eq_true h
  | _ => exact swNo rfl
theorem CxOk.tr {g : Gx} {sc : Sc} {U : Au} {W W' : WX} {Φ : Nat → List Ar → Out} {k : Nat} {X : Cx} (o : CxOk g sc U W Φ k X) {pn : List (Addr × Obj)} {xe : Value → Shared → Prop} (hc : sc.calm = true) (tk : L2N.Takes (X.tr pn xe) W') (po : PassesOwn (model X.prog X.w) X.A X.env xe) : CxOk g sc U W' Φ k (X.tr pn xe) where
  N := o.N
  nd := o.nd
  nm := o.nm
  kd := o.kd
  calm := o.calm
  hu := o.hu
  room := o.room
  gd := o.gd
  top := o.top
  fn := o.fn
  tk := tk
  po := po
  gl := ⟨fun x f h => ⟨(o.gl.fns x f h).ok, (o.gl.fns x f h).mg, (o.gl.fns x f h).kp⟩, o.gl.cst, fun x c h => ⟨(o.gl.cls x c h).mg, (o.gl.cls x c h).kp, (o.gl.cls x c h).ex, (o.gl.cls x c h).sub, (o.gl.cls x c h).ty⟩, o.gl.fre, fun x f h => ⟨(o.gl.hot x f h).ok, (o.gl.hot x f h).mg, (o.gl.hot x f h).kp⟩, o.gl.kpf, o.gl.num, o.gl.sm, o.gl.ec⟩
  px := fun q c h => (o.pxc hc q c h).elim
  pxc := o.pxc
structure SndS (g : Gx) (U : Au) (Φ : Nat → List Ar → Out) (k n : Nat) : Prop where
  s : ∀ (W : WX) (sc : Sc) (c : S) (st : Stmt) (X : Cx), CxOk g sc U W Φ k X → ckS g n sc c st = true → PS X st (tS X.K U W Φ c)
  ss : ∀ (W : WX) (sc : Sc) (c : Ss) (st : List Stmt) (X : Cx), CxOk g sc U W Φ k X → ckSs g n sc c st = true → PSs X st (tSs X.K U W Φ c)
section
variable {g : Gx} {U : Au} {Φ : Nat → List Ar → Out} {k n : Nat} {X : Cx} {W : WX} {sc : Sc}
theorem snd_ss (ih : SndS g U Φ k n) (c : Ss) (st : List Stmt) (o : CxOk g sc U W Φ k X) (h : ckSs g (n + 1) sc c st = true) : PSs X st (tSs X.K U W Φ c) := by
  unfold ckSs at h
  split at h
  · cases st with
    | nil => exact ys_nil
    | cons _ _ => cases h
  · exact ys_wipe (ih.ss W sc _ _ X o h)
  · split at h
    · rw [Bool.and_eq_true] at h
      exact ys_cons (ih.s W sc _ _ X o h.1) (ih.ss W sc _ _ X o h.2)
    · cases h
theorem snd_s (ih : SndS g U Φ k n) (c : S) (st : Stmt) (o : CxOk g sc U W Φ k X) (h : ckS g (n + 1) sc c st = true) : PS X st (tS X.K U W Φ c) := by
  have ie := snd g U Φ k n
  unfold ckS at h
  split at h
  · split at h
    · rw [Bool.and_eq_true, Bool.and_eq_true] at h
      obtain ⟨⟨h1, h2⟩, h3⟩ := h
      obtain ⟨s1, s2⟩ := o.sto' h2
      split at h3
      · split at h3
        · rename_i hsw
          refine (ie.l W sc _ _ _ _ X _ o h3).2 _ _ _ _ (o.slot' h1) (by rw [o.nm]; exact lcSw_local hsw) ?_
          rw [lcSw_ok o.kd o.nm, hsw]
        · rename_i hsw
          refine y_set o.nd (o.slot' h1) s1 s2 (ie.e W sc _ _ X o h3) ?_
          rw [lcSw_ok o.kd o.nm]
          simp only [Bool.not_eq_true] at hsw
          rw [hsw]
      · rw [Bool.and_eq_true] at h3
        exact y_set o.nd (o.slot' h1) s1 s2 (ie.e W sc _ _ X o h3.2) (swaps_of h3.1)
    · cases h
  · split at h
    · simp only [Bool.and_eq_true] at h
      obtain ⟨⟨⟨⟨h1, h2⟩, h3⟩, h4⟩, h5⟩ := h
      have cm : X.calm = true := by rw [o.calm]; exact h1
      obtain ⟨xs, ps, e1, e2, e3⟩ := o.names' h2
      subst e1
      exact y_unp cm o.nd e3 e2 (ie.e W sc _ _ X o h5) (sole_of h3) (unp_sw o.kd o.nm h4)
    · cases h
  · split at h
    · simp only [Bool.and_eq_true] at h
      obtain ⟨⟨⟨⟨⟨⟨⟨⟨⟨⟨h1, h2⟩, h3⟩, h4⟩, h5⟩, h6⟩, h7⟩, h8⟩, h9⟩, h10⟩, h11⟩ := h
      have cm : X.calm = true := by rw [o.calm]; exact h1
      refine y_par cm o.nd (o.slot' h2) (o.slot' h3) (of_decide_eq_true h4) (by rw [o.nm]; exact of_decide_eq_true h5) (by rw [o.nm]; exact of_decide_eq_true h6) (ie.e W sc _ _ X o h10) (ie.e W sc _ _ X o h11) h7 h8 ?_
      refine swM_ok o.kd ?_
      rw [o.nm]
      exact of_decide_eq_true h9
    · cases h
  · split at h
    · rw [Bool.and_eq_true] at h
      exact y_drop (ie.e W sc _ _ X o h.2) (swaps_of h.1)
    · cases h
  · split at h
    · exact y_ret (ie.e W sc _ _ X o h)
    · split at h
      · exact y_retN
      · cases h
    · cases h
  · split at h
    · simp only [Bool.and_eq_true] at h
      exact y_if (ie.t W sc _ _ X o h.1.1) (ih.ss W sc _ _ X o h.1.2) (ih.ss W sc _ _ X o h.2)
    · cases h
  · split at h
    · simp only [Bool.and_eq_true] at h
      obtain ⟨⟨⟨⟨h1, h2⟩, h3⟩, h4⟩, h5⟩ := h
      have cm : X.calm = true := by rw [o.calm]; exact h1
      exact y_for o.po cm (ie.it W sc _ _ _ X o h4) (o.tg' h3) (ih.ss W sc _ _ X o h5) (foldSet_of h2)
    · cases h
  · split at h
    · rw [Bool.and_eq_true] at h
      exact y_while o.po (ie.t W sc _ _ X o h.1) (ih.ss W sc _ _ X o h.2)
    · cases h
  · split at h
    · simp only [Bool.and_eq_true] at h
      obtain ⟨⟨⟨h1, h2⟩, h3⟩, h4⟩ := h
      have cm : X.calm = true := by rw [o.calm]; exact h1
      exact y_raise cm o.tk (o.gl.cls _ _ (of_decide_eq_true h4)) (o.gl' h2) (okN_of h3).1
    · cases h
  · split at h
    · simp only [Bool.and_eq_true] at h
      obtain ⟨⟨⟨⟨⟨⟨h1, h2⟩, h3⟩, h4⟩, h5⟩, h6⟩, h7⟩ := h
      have e := of_decide_eq_true h1
      subst e
      exact y_app (o.var' h2 h3 h4) (ie.e W sc _ _ X o h7) h5 h6
    · cases h
  · split at h
    · simp only [Bool.and_eq_true] at h
      obtain ⟨⟨⟨⟨⟨⟨h1, h2⟩, h3⟩, h4⟩, h5⟩, h6⟩, h7⟩ := h
      refine y_sti (o.var' h2 h3 h4) (ie.e W sc _ _ X o h6) (ie.e W sc _ _ X o h7) (sole_of h5) ?_
      rename_i kk _ _ _
      intro v
      cases kk <;> first | rfl | cases h1
    · cases h
  · split at h
    · simp only [Bool.and_eq_true] at h
      obtain ⟨⟨⟨⟨⟨⟨⟨⟨⟨⟨⟨⟨h1, h2⟩, h3⟩, h4⟩, h5⟩, h6⟩, h7⟩, h8⟩, h9⟩, h10⟩, h11⟩, h12⟩, h13⟩ := h
      have e3 := of_decide_eq_true h3
      subst e3
      obtain ⟨t1, t2⟩ := o.top h2
      have hot := o.gl.hot _ _ (of_decide_eq_true h12)
      have hne : g.hot.isEmpty = false := by
        cases z : g.hot with
        | nil => have := of_decide_eq_true h12; rw [z] at this; cases this
        | cons _ _ => rfl
      refine y_try t1 t2 o.nd (o.slot' h4) (by rw [o.nm]; exact of_decide_eq_true h5) ⟨o.gl' h7, (okN_of h8).1, .inl (o.gl.cls _ _ (of_decide_eq_true h9)).mg⟩ o.tk (L2H.roomH_of (o.room h1)) hot (o.gl.ec hne) (o.gl' h10) (okN_of h11).1 (okN_of h6).1 (okN_of h6).2.1 fun W' pn xe tk po => ?_
      exact ih.ss W' sc _ _ (X.tr pn xe) (o.tr h1 tk po) h13
    · cases h
  · cases h
end
theorem sndS (g : Gx) (U : Au) (Φ : Nat → List Ar → Out) (k : Nat) : ∀ n, SndS g U Φ k n
  | 0 => ⟨fun _ _ _ _ _ _ h => (nomatch h), fun _ _ _ _ _ _ h => (nomatch h)⟩
  | n + 1 => ⟨fun W sc c st X o h => snd_s (sndS g U Φ k n) c st o h, fun W sc c st X o h => snd_ss (sndS g U Φ k n) c st o h⟩
end Fc

/-! functions -/
namespace Fc
open PySem PySem.Spec PyProof.Rows L2
theorem lookup_zip {α : Type} : ∀ {ps : List Str} {us : List α}, us.length = ps.length → ps.Nodup → (ps.filterMap fun n => ((ps.zip us).lookup n).map (n, ·)) = ps.zip us := by
  intro ps us hl nd
  induction ps generalizing us with
  | nil => cases us <;> simp_all
  | cons p ps ih =>
    cases us with
    | nil => cases hl
    | cons u us =>
      have hl' : us.length = ps.length := by simpa using hl
      have nd' := List.nodup_cons.mp nd
      rw [List.zip_cons_cons, List.filterMap_cons]
      simp only [List.lookup_cons, beq_self_eq_true, Option.map_some]
      congr 1
      have h2 : ∀ l : List Str, (∀ n ∈ l, n ∈ ps) → (l.filterMap fun n => (match n == p with | true => some u | false => (ps.zip us).lookup n).map (n, ·)) = l.filterMap fun n => ((ps.zip us).lookup n).map (n, ·) := by
        intro l
        induction l with
        | nil => intro _; rfl
        | cons n l il =>
          intro hs
          have hn : (n == p) = false := by
            cases e : n == p with
            | false => rfl
            | true => exact absurd (eq_of_beq e ▸ hs n List.mem_cons_self) nd'.1
          rw [List.filterMap_cons, List.filterMap_cons, il fun m hm => hs m (List.mem_cons_of_mem _ hm), hn]
      exact (h2 ps fun _ h => h).trans (ih hl' nd'.2)
theorem lookup_zip_some {α : Type} : ∀ {ps : List Str} {us : List α} {n : Str}, us.length = ps.length → n ∈ ps → ((ps.zip us).lookup n).isNone = false := by
  intro ps us n hl hn
  induction ps generalizing us with
  | nil => cases hn
  | cons p ps ih =>
    cases us with
    | nil => cases hl
    | cons u us =>
      rw [List.zip_cons_cons, List.lookup_cons]
      cases e : n == p with
      | true => rfl
      | false =>
        have : n ≠ p := fun z => by subst z; simp at e
        exact ih (by simpa using hl) ((List.mem_cons.mp hn).resolve_left this)
def plainArgs (ar : Arguments) (ps : List Str) : Bool := ar.posonlyargs.isEmpty && decide (ar.args.map (·.arg) = ps) && ar.vararg.isNone && ar.kwonlyargs.isEmpty && ar.kwarg.isNone && decide ps.Nodup
theorem bindArgs_plain {x qual : Str} {ar : Arguments} {body : List Stmt} {scope : Scope} {kV doc pm cdv ct : Value} {an : Option Addr} {ps : List Str} (h : plainArgs ar ps = true) (us : List Value) (hl : us.length = ps.length) :
    bindArgs (PySem.W.fnOf x qual ar body scope .none kV doc pm an cdv ct) ⟨us, []⟩ = pure (ps.zip us) := by
  unfold plainArgs at h
  simp only [Bool.and_eq_true] at h
  obtain ⟨⟨⟨⟨⟨h1, h2⟩, h3⟩, h4⟩, h5⟩, h6⟩ := h
  obtain ⟨po, as, va, ko, kd, kw, df⟩ := ar
  have e1 : po = [] := List.isEmpty_iff.mp h1
  have e2 : as.map (·.arg) = ps := of_decide_eq_true h2
  have e3 : va = none := Option.isNone_iff_eq_none.mp h3
  have e4 : ko = [] := List.isEmpty_iff.mp h4
  have e5 : kw = none := Option.isNone_iff_eq_none.mp h5
  have nd := of_decide_eq_true h6
  subst e1 e3 e4 e5
  unfold bindArgs
  simp only [PySem.W.fnOf, List.map_nil, List.nil_append, e2, List.forIn_nil, pure_bind, List.append_nil]
  have hs : (seqItems? Value.none : Sem _) = pure none := rfl
  have hm : (ps.filter fun n => ((ps.zip us).lookup n).isNone) = [] := List.filter_eq_nil_iff.mpr fun n hn => by rw [lookup_zip_some hl hn]; decide
  simp only [hs, pure_bind, Option.getD_none]
  rw [if_neg (by rw [hl]; simp)]
  simp only [List.drop_nil, List.length_nil, Nat.sub_zero, List.take_length, hm, List.isEmpty_nil, Bool.not_true, Bool.false_eq_true, if_false, List.drop_length, List.zip_nil_right, List.forIn_nil, pure_bind]
  rw [lookup_zip hl nd]

/-- a def of the text with its code -/
structure Fx where
  no : Nat
  name : Str
  params : Arguments
  text : List Stmt
  scope : Scope
  N : List Str
  np : Nat
  code : Ss
def scOf (d : Fx) : Sc := ⟨d.N, d.scope.names, d.scope.names, true, true⟩
def scopeOk (N : List Str) (np : Nat) (sc : Scope) : Bool := decide (sc.kind = .function) && !sc.isCoroutine && !sc.isGenerator && decide N.Nodup && decide (np ≤ N.length)
  && ((N.take np).all fun x => decide (sc.names.lookup x = some .local) || decide (sc.names.lookup x = some .cell)) && (sc.names.all fun y => decide (y.2 ≠ .free))
def fxOk (g : Gx) (d : Fx) : Bool := scopeOk d.N d.np d.scope && plainArgs d.params (d.N.take d.np) && ckSs g 60 (scOf d) d.code d.text
theorem scope_of {N : List Str} {np : Nat} {sc : Scope} (h : scopeOk N np sc = true) : FnScope N (N.take np) sc ∧ np ≤ N.length := by
  unfold scopeOk at h
  simp only [Bool.and_eq_true] at h
  obtain ⟨⟨⟨⟨⟨⟨h1, h2⟩, h3⟩, h4⟩, h5⟩, h6⟩, h7⟩ := h
  have hn := of_decide_eq_true h5
  refine ⟨⟨of_decide_eq_true h1, by simpa using h2, by simpa using h3, of_decide_eq_true h4, by rw [List.length_take, Nat.min_eq_left hn], fun x hx => ?_, fun y hy => of_decide_eq_true (List.all_eq_true.mp h7 y hy)⟩, hn⟩
  have := List.all_eq_true.mp h6 x hx
  rw [Bool.or_eq_true] at this
  exact this.imp of_decide_eq_true of_decide_eq_true
def fxAt (fx : List Fx) (f : Nat) : Option Fx := fx.find? fun d => d.no == f
def progOf (fx : List Fx) : Nat → Option Fd := fun f => (fxAt fx f).map fun d => ⟨d.np, d.N.length, d.code⟩
theorem arV_fa {K : PySem.W.Frag} {U U' : Au} {F : Hp} {v : V} {a : Ar} (e : U.fa = U'.fa) (h : ArV K U F v a) : ArV K U' F v a := by
  cases h with
  | dat h => exact .dat h
  | fn f => rw [e]; exact .fn f
  | scr h => exact .scr h
theorem Paired.mp {α β : Type} {P Q : α → β → Prop} (k : ∀ a b, P a b → Q a b) : ∀ {xs : List α} {ys : List β}, Paired P xs ys → Paired Q xs ys
  | _, _, .nil => .nil
  | _, _, .cons a t => .cons (k _ _ a) (Paired.mp k t)
theorem avs_fa {K : PySem.W.Frag} {U U' : Au} {F H : Hp} (e : U.fa = U'.fa) : ∀ {as : List Ar} {io : Option Addr} {vs : List V}, AVs K U F H vs as io → AVs K U' F H vs as io
  | [], none, _, h => Paired.mp (fun _ _ => arV_fa e) h
  | .dat _ :: _, none, _, h => Paired.mp (fun _ _ => arV_fa e) h
  | .fn _ :: _, none, _, h => Paired.mp (fun _ _ => arV_fa e) h
  | .exc _ :: _, none, _, h => Paired.mp (fun _ _ => arV_fa e) h
  | .scr _ :: _, none, _, h => Paired.mp (fun _ _ => arV_fa e) h
  | .io _ :: _, some p, _, h => by
    obtain ⟨ws, vs', h1, h2, h3, h4, h5⟩ := h
    exact ⟨ws, vs', h1, h2, h3, h4, Paired.mp (fun _ _ => arV_fa e) h5⟩
theorem spF_fa {K : PySem.W.Frag} {U U' : Au} {Φ : Nat → List Ar → Out} {f : Nat} (e : U.fa = U'.fa) (e2 : U.ea = U'.ea) (vs : List V) (H : Hp) (Q : VK) (E : XK) (h : spF K U Φ f vs H Q E) : spF K U' Φ f vs H Q E := by
  obtain ⟨F, as, io, h1, h2, h3⟩ := h
  refine ⟨F, as, io, h1, avs_fa e h2, ?_⟩
  unfold PostC at h3 ⊢
  rw [← e2]
  exact h3
/-- all that a call leaves alone -/
def restH (F H : Hp) (io : Option Addr) : Hp := fun a => if F a = none ∧ io ≠ some a then H a else none
section
variable {K : PySem.W.Frag} {U : Au} {F F' H H' : Hp} {io : Option Addr} {σ : L2.St} {s : St} {as : List Ar} {vs : List V}
theorem avs_none (h : AVs K U F H vs as none) : Paired (ArV K U F) vs as ∧ isIo as = false := by
  cases as with
  | nil => exact ⟨h, rfl⟩
  | cons a r => cases a <;> first | exact ⟨h, rfl⟩ | exact h.elim
theorem arB_rep {v : V} {a : Ar} (h : ArV K U F v a) (G : Hp) : RepB K U F G H (some (some v)) (arB a) ∧ owned (arB a) = false := by
  cases h with
  | dat h => exact ⟨h, rfl⟩
  | fn f => exact ⟨rfl, rfl⟩
  | scr h => exact ⟨h, rfl⟩
theorem paired_get {α β : Type} {P : α → β → Prop} : ∀ {xs : List α} {ys : List β} {i : Nat} {y : β}, Paired P xs ys → ys[i]? = some y → ∃ x, xs[i]? = some x ∧ P x y
  | _, _, _, _, .nil, e => by simp at e
  | _, _, 0, _, .cons r _, e => by simp at e; subst e; exact ⟨_, rfl, r⟩
  | _, _, i + 1, y, .cons _ t, e => by
    obtain ⟨x, h1, h2⟩ := paired_get (i := i) (y := y) t (by simpa using e)
    exact ⟨x, by simpa using h1, h2⟩
theorem start_get {N : List Str} {i : Nat} {v : V} (h : vs[i]? = some v) : (L2.start N vs)[i]? = some (some v) := by
  unfold L2.start
  have hi := (List.getElem?_eq_some_iff.mp h).1
  rw [List.getElem?_append_left (by simpa using hi), List.getElem?_map, h]
  rfl
theorem rep_start {N : List Str} {n : Nat} (hF : Same F H) (h : AVs K U F H vs as io) (hio : ∀ p, io = some p → U.io = p) (hn : as.length + n = N.length) : Rep K U F (restH F H io) H (L2.start N vs) (as.map arB ++ List.replicate n .un) := by
  have gh : Same (restH F H io) H := fun a o e => by
    unfold restH at e
    split at e
    · exact e
    · cases e
  have fg : ∀ a o, F a = some o → restH F H io a = none := fun a o e => by
    unfold restH
    rw [if_neg (fun z => by rw [z.1] at e; cases e)]
  have len : (as.map arB ++ List.replicate n B.un).length = (L2.start N vs).length := by
    unfold L2.start
    rw [List.length_append, List.length_append, List.length_map, List.length_replicate, List.length_map, List.length_replicate, h.len]
    omega
  have get : ∀ (i : Nat) (b : B), (as.map arB ++ List.replicate n B.un)[i]? = some b → (∃ a, as[i]? = some a ∧ b = arB a) ∨ b = .un := fun i b e => by
    by_cases hi : i < as.length
    · rw [List.getElem?_append_left (by simpa using hi), List.getElem?_map] at e
      cases q : as[i]? with
      | none => rw [q] at e; cases e
      | some a => rw [q] at e; cases e; exact .inl ⟨a, rfl, rfl⟩
    · rw [List.getElem?_append_right (by simpa using hi), List.getElem?_replicate] at e
      split at e
      · cases e; exact .inr rfl
      · cases e
  cases io with
  | none =>
    obtain ⟨hp, _⟩ := avs_none h
    have fact : ∀ (i : Nat) (b : B), (as.map arB ++ List.replicate n B.un)[i]? = some b → RepB K U F (restH F H none) H ((L2.start N vs)[i]?) b ∧ owned b = false := fun i b e => by
      rcases get i b e with ⟨a, h1, rfl⟩ | rfl
      · obtain ⟨v, h2, h3⟩ := paired_get hp h1
        rw [start_get h2]
        exact arB_rep h3 _
      · exact ⟨trivial, rfl⟩
    exact ⟨len, hF, gh, fg, fun i b e => (fact i b e).1, fun i j bi bj p hi _ oi _ _ _ => by rw [(fact i bi hi).2] at oi; cases oi⟩
  | some p =>
    cases as with
    | nil => exact h.elim
    | cons a r =>
      cases a with
      | io xs =>
        obtain ⟨ws, vs', rfl, h1, h2, h3, h4⟩ := h
        have fact : ∀ (i : Nat) (b : B), ((Ar.io xs :: r).map arB ++ List.replicate n B.un)[i]? = some b → RepB K U F (restH F H (some p)) H ((L2.start N (.ref p :: vs'))[i]?) b ∧ (owned b = true → i = 0) := fun i b e => by
          rcases get i b e with ⟨a, g1, rfl⟩ | rfl
          · cases i with
            | zero =>
              cases g1
              rw [start_get (v := .ref p) rfl]
              refine ⟨⟨h2, ?_, (hio p rfl).symm, ws, h1, h3⟩, fun _ => rfl⟩
              unfold restH
              rw [if_neg (fun z => z.2 rfl)]
            | succ i =>
              obtain ⟨v, g2, g3⟩ := paired_get (i := i) h4 (by simpa using g1)
              rw [start_get (i := i + 1) (v := v) (by simpa using g2)]
              obtain ⟨g4, g5⟩ := arB_rep g3 (restH F H (some p))
              exact ⟨g4, fun z => by rw [g5] at z; cases z⟩
          · exact ⟨trivial, fun z => nomatch z⟩
        exact ⟨len, hF, gh, fg, fun i b e => (fact i b e).1, fun i j bi bj q hi hj oi oj _ _ => by rw [(fact i bi hi).2 oi, (fact j bj hj).2 oj]⟩
      | _ => exact h.elim
theorem ioS_true (h : ioS s = true) : ∃ xs r, s = .io xs :: r := by
  cases s with
  | nil => cases h
  | cons b r => cases b <;> first | exact ⟨_, _, rfl⟩ | cases h
/-- behind the body: what the caller may count on -/
theorem cgrow_of (hF : Same F H) (e : Same F F') (R : Rep K U F' (restH F H io) H' σ s) (hio : ∀ p, io = some p → U.io = p ∧ ioS s = true) : CGrow F H F' H' io (ioOf s) := by
  have slot0 : ∀ p, io = some p → ∃ vs, H' p = some (.lst vs) ∧ DatL F' vs (ioOf s) ∧ F' p = none := fun p hp => by
    obtain ⟨h1, h2⟩ := hio p hp
    obtain ⟨xs, r, rfl⟩ := ioS_true h2
    have hb := R.b 0 (.io xs) rfl
    cases q : σ[0]? with
    | none => rw [q] at hb; exact hb.elim
    | some o =>
      rw [q] at hb
      cases o with
      | none => exact hb.elim
      | some v =>
        cases v with
        | ref p' =>
          obtain ⟨g1, g2, g3, vs, g4, g5⟩ := hb
          have : p' = p := g3.trans h1
          subst this
          exact ⟨vs, g4, g5, g1⟩
        | _ => exact hb.elim
  refine ⟨e, R.fh, fun a o h1 h2 => ?_, fun a o h1 h2 => ?_, fun p hp => ?_⟩
  · by_cases hi : io = some a
    · obtain ⟨_, _, _, g⟩ := slot0 a hi
      rw [g] at h1; cases h1
    · have := R.fg a o h1
      unfold restH at this
      rw [if_pos ⟨h2, hi⟩] at this
      exact this
  · cases q : F a with
    | some o' =>
      have := hF a o' q
      rw [h1] at this; cases this
      exact R.fh a _ (e a _ q)
    | none => exact R.gh a o (by unfold restH; rw [if_pos ⟨q, h2⟩]; exact h1)
  · obtain ⟨vs, g1, g2, _⟩ := slot0 p hp
    exact ⟨vs, g1, g2⟩
theorem newV_of {u : V} {v v' : Vl} (hF : Same F H) (e : Same F F') (R : Rep K U F' (restH F H io) H' σ s) (hv : RepV K U F' (restH F H io) H' σ s u v) (hr : retV s v = some v') (hio : ∀ p, io = some p → U.io = p ∧ ioS s = true) : NewV F H F' H' u v' := by
  have fresh : ∀ q, F' q = none → restH F H io q = none → io ≠ some q → H q = none := fun q h1 h2 h3 => by
    cases z : F q with
    | some o => rw [e q o z] at h1; cases h1
    | none => unfold restH at h2; rw [if_pos ⟨z, h3⟩] at h2; exact h2
  have s0 : ∀ q, io = some q → (∃ xs, s[0]? = some (.io xs)) ∧ σ[0]? = some (some (.ref q)) := fun q hq => by
    obtain ⟨h1, h2⟩ := hio q hq
    obtain ⟨xs, r, rfl⟩ := ioS_true h2
    refine ⟨⟨xs, rfl⟩, ?_⟩
    have hb := R.b 0 (.io xs) rfl
    cases z : σ[0]? with
    | none => rw [z] at hb; exact hb.elim
    | some o =>
      rw [z] at hb
      cases o with
      | none => exact hb.elim
      | some v =>
        cases v with
        | ref p' =>
          obtain ⟨_, _, g3, _⟩ := hb
          rw [g3, h1]
        | _ => exact hb.elim
  have free : ∀ q, Free σ s q → io ≠ some q := fun q hf hq => by
    obtain ⟨⟨xs, g1⟩, g2⟩ := s0 q hq
    exact hf 0 _ g1 rfl g2
  cases v with
  | dat d => cases hr; exact hv
  | newL xs =>
    cases hr
    obtain ⟨q, vs, rfl, h1, h2, h3, h4, h5⟩ := hv
    exact ⟨q, vs, rfl, fresh q h2 h3 (free q h5), h2, h1, h4⟩
  | newD xs =>
    cases hr
    obtain ⟨q, o, rfl, h1, h2, h3, h4, h5⟩ := hv
    exact ⟨q, o, rfl, fresh q h2 h3 (free q h5), h2, h1, h4⟩
  | slot i =>
    have hv : σ[i]? = some (some u) := hv
    unfold retV at hr
    cases z : s[i]? with
    | none => simp [z] at hr
    | some b =>
      have hb := R.b i b z
      rw [hv] at hb
      have ne0 : ∀ q, u = .ref q → owned b = true → (∀ xs, b ≠ .io xs) → io ≠ some q := fun q hu ob nb hq => by
        subst hu
        obtain ⟨⟨xs, g1⟩, g2⟩ := s0 q hq
        have := R.inj i 0 b _ q z g1 ob rfl hv g2
        subst this
        rw [z] at g1; cases g1
        exact nb xs rfl
      cases b with
      | lst xs =>
        simp [z] at hr
        subst hr
        cases u with
        | ref q =>
          obtain ⟨h1, h2, vs, h3, h4⟩ := hb
          exact ⟨q, vs, rfl, fresh q h1 h2 (ne0 q rfl rfl fun _ y => nomatch y), h1, h3, h4⟩
        | _ => exact hb.elim
      | dct xs =>
        simp [z] at hr
        subst hr
        cases u with
        | ref q =>
          obtain ⟨h1, h2, o, h3, h4⟩ := hb
          exact ⟨q, o, rfl, fresh q h1 h2 (ne0 q rfl rfl fun _ y => nomatch y), h1, h3, h4⟩
        | _ => exact hb.elim
      | _ => simp [z] at hr
  | _ => cases hr
end
open L2H (RoomH Hot1 PinOk cxH inv_startH)
section
variable {K : PySem.W.Frag} {U : Au} {F H : Hp}
/-- at the start of a def that is handed the pinned exception -/
theorem rep_startE {N : List Str} {n c : Nat} {q : Addr} (hF : Same F H) (hp : U.px q c) (hn : n + 1 = N.length) : Rep K U F (restH F H none) H (L2.start N [.ref q]) (.exc c :: List.replicate n .un) := by
  have fact : ∀ (i : Nat) (b : B), (B.exc c :: List.replicate n B.un)[i]? = some b → RepB K U F (restH F H none) H ((L2.start N [.ref q])[i]?) b ∧ owned b = false := fun i b e => by
    cases i with
    | zero =>
      cases e
      rw [start_get (v := .ref q) rfl]
      exact ⟨hp, rfl⟩
    | succ i =>
      rw [List.getElem?_cons_succ, List.getElem?_replicate] at e
      split at e
      · cases e
        exact ⟨trivial, rfl⟩
      · cases e
  refine ⟨?_, hF, fun a o e => ?_, fun a o e => ?_, fun i b e => (fact i b e).1, fun i j bi bj p hi _ oi _ _ _ => ?_⟩
  · unfold L2.start
    rw [List.length_cons, List.length_replicate, List.length_append, List.length_map, List.length_replicate]
    show n + 1 = 1 + (N.length - 1)
    omega
  · unfold restH at e
    split at e
    · exact e
    · cases e
  · unfold restH
    exact if_neg fun z => by rw [z.1] at e; cases e
  · rw [(fact i bi hi).2] at oi
    cases oi
/-- the walk of such a def, from its code -/
theorem walkE {g : Gx} {sc : Sc} {Φ : Nat → List Ar → Out} {k n c : Nat} {X : Cx} {q : Addr} {code : Ss} {text : List Stmt} {E : XK} {Q : VK} (ox : CxOk g sc U (fun cls dd _ H => E cls dd H) Φ k X) (ck : ckSs g 60 sc code text = true) (hn : n + 1 = X.N.length) (hF : Same F H) (hp : U.px q c)
    (hP : PostC U F H none (endOf false (dSs Φ code (.exc c :: List.replicate n .un))) Q E) : ∃ t, PSs X text t ∧ t { nx := fun _ H' => Q .non H', rt := Q } (L2.start X.N [.ref q]) H := by
  refine ⟨tSs X.K U (fun cls dd _ H => E cls dd H) Φ code, (sndS g U Φ k 60).ss _ _ _ _ _ ox ck, F, restH F H none, _, rep_startE hF hp hn, ?_⟩
  have no : ∀ s' p, none = some p → U.io = p ∧ ioS s' = true := fun _ _ z => nomatch z
  cases r : dSs Φ code (.exc c :: List.replicate n .un) with
  | bad => rw [r] at hP; exact hP
  | exc e s' =>
    rw [r] at hP
    have hP : PostC U F H none (match ioS s' == false with
      | true => .exc e (ioOf s')
      | false => .bad) Q E := hP
    cases b : ioS s' == false with
    | false => rw [b] at hP; exact hP.elim
    | true => rw [b] at hP; exact fun σ' H' F' a R => hP H' F' (cgrow_of hF a R (no s'))
  | ok fl s' =>
    rw [r] at hP
    cases fl with
    | next =>
      have hP : PostC U F H none (match ioS s' == false with
        | true => .ok (.dat .none) (ioOf s')
        | false => .bad) Q E := hP
      cases b : ioS s' == false with
      | false => rw [b] at hP; exact hP.elim
      | true => rw [b] at hP; exact fun σ' H' F' a R => hP .non H' F' (cgrow_of hF a R (no s')) .non
    | ret v =>
      have hP : PostC U F H none (match ioS s' == false, retV s' v with
        | true, some v => .ok v (ioOf s')
        | _, _ => .bad) Q E := hP
      cases b : ioS s' == false with
      | false => rw [b] at hP; exact hP.elim
      | true =>
        cases z : retV s' v with
        | none => rw [b, z] at hP; exact hP.elim
        | some v' => rw [b, z] at hP; exact fun u σ' H' F' a R hv => hP u H' F' (cgrow_of hF a R (no s')) (newV_of hF a R hv z (no s'))
end
def scHot (d : Fx) : Sc := ⟨d.N, d.scope.names, d.scope.names, false, false⟩
def fxHot (g : Gx) (d : Fx) : Bool := scopeOk d.N d.np d.scope && plainArgs d.params (d.N.take d.np) && ckSs g 60 (scHot d) d.code d.text && decide (d.np = 1)
section
variable {P : Program} {w : World} {K : PySem.W.Frag} {mg : Str → Option Value} {base : Heap} {g : Gx} {fx : List Fx} {fa ea : Nat → Addr}
theorem hot_succ (k f : Nat) (d : Fx) (fd : FuncData) (hf : fxAt fx f = some d) (FD : FunD K d.name d.name d.params d.text d.scope [] [] (fa f) fd) (hok : fxHot g d = true)
    (gl : ∀ (U : Au) (X : Cx), U.fa = fa → U.ea = ea → X.prog = P → X.w = w → X.K = K → X.mg = mg → X.base = base → GOk g U (dFun (progOf fx) k) k X) :
    HotFn P w K mg base ea g.nc (k + 1) (fa f) fd (d.N.take d.np) (fun c => dFun (progOf fx) (k + 1) f [.exc c]) := by
  unfold fxHot at hok
  rw [Bool.and_eq_true, Bool.and_eq_true, Bool.and_eq_true] at hok
  obtain ⟨⟨⟨o1, o2⟩, o3⟩, o4⟩ := hok
  have np : d.np = 1 := of_decide_eq_true o4
  obtain ⟨S, hn⟩ := scope_of o1
  intro A outer s H F args us Q E p c room pin env bind rel k1 k2 k3 ec hF hP
  have e : dFun (progOf fx) (k + 1) f [.exc c] = endOf false (dSs (dFun (progOf fx) k) d.code (.exc c :: List.replicate (d.N.length - 1) .un)) := by
    show (match progOf fx f with
      | some d => if [Ar.exc c].length = d.np then endOf (isIo [Ar.exc c]) (dSs (dFun (progOf fx) k) d.body ([Ar.exc c].map arB ++ List.replicate (d.ns - d.np) B.un)) else .bad
      | none => .bad) = _
    have hp : progOf fx f = some ⟨d.np, d.N.length, d.code⟩ := by unfold progOf; rw [hf]; rfl
    rw [hp]
    refine (if_pos np.symm).trans ?_
    rw [np]
    rfl
  have lp : (d.N.take d.np).length = 1 := by rw [List.length_take, Nat.min_eq_left hn, np]
  refine hot_run FD S room pin env bind rel (by rw [lp]; rfl) fun cdv hr => ?_
  let U : Au := ⟨fa, ea, fun q n => q = p.1 ∧ n = c, 0⟩
  have ox : CxOk g (scHot d) U (fun cls dd _ H => E cls dd H) (dFun (progOf fx) k) k (cxH (L2N.CX P w) P w K mg base d.N d.name d.scope (fa f) cdv A outer s H E p) :=
    { N := rfl, nd := S.nd, nm := rfl, kd := S.kind, calm := rfl, hu := by have := hr.un; show (A.deeper _).units + 64 < _; omega, room := fun z => Bool.noConfusion z, gd := fun z => Bool.noConfusion z, top := fun z => Bool.noConfusion z, fn := fun _ _ => rfl, tk := L2N.takes_of rfl rfl rfl rfl, po := PassesOwn.leaving,
      gl := gl U _ rfl rfl rfl rfl rfl rfl rfl,
      px := fun q n h => by
        obtain ⟨rfl, rfl⟩ := h
        obtain ⟨vs, k3⟩ := k3
        exact ⟨ec, p.2, vs, List.mem_singleton.mpr rfl, k1, k2, k3⟩,
      pxc := fun z => Bool.noConfusion z }
  exact walkE (n := d.N.length - 1) (c := c) ox o3 (by show d.N.length - 1 + 1 = d.N.length; omega) hF ⟨rfl, rfl⟩ (by rw [← e]; exact hP)
end
/-- what the head tells of the defs -/
structure Top (g : Gx) (fx : List Fx) (K : PySem.W.Frag) (mg : Str → Option Value) (fa ea : Nat → Addr) : Prop where
  fn : ∀ f d, fxAt fx f = some d → ∃ fd, FunD K d.name d.name d.params d.text d.scope [] [] (fa f) fd
  gl : ∀ x f, g.fns.lookup x = some f → ∃ d, fxAt fx f = some d ∧ mg x = some (.ref (fa f))
  cst : ∀ x i, g.cst.lookup x = some i → ∃ t, mg x = some (.int i t)
  fre : ∀ x, x ∈ g.fre → mg x = none
  cls : ∀ x c, g.cls.lookup x = some c → mg x = some (.ref (ea c)) ∧ PySem.W.keepIn K (.ref (ea c)) = true ∧ PySem.W.excIn K (ea c) [.type "ValueError", .type "Exception", .type "BaseException", .type "object"] "ValueError.__new__" = true ∧ PySem.W.subIn K (.ref (ea c)) (.type "BaseException") = some true ∧ PySem.W.typeIn K (.ref (ea c)) = some (.type "type")
  ok : fx.all (fxOk g) = true
  hot : ∀ x f, g.hot.lookup x = some f → ∃ d, fxAt fx f = some d ∧ mg x = some (.ref (fa f)) ∧ fxHot g d = true
  kpf : ∀ f, PySem.W.keepIn K (.ref (fa f)) = true
  sm : ∃ o, K.lookup sysModules = some o
  ec : g.hot.isEmpty = false → ∀ c, c < 17 → EcOk K ea g.nc c ∧ PySem.W.exmOne K (.ref (ea c)) (.ref (ea 0)) = some true
def U0 (fa ea : Nat → Addr) : Au := ⟨fa, ea, fun _ _ => False, 0⟩
section
variable {P : Program} {w : World} {K : PySem.W.Frag} {mg : Str → Option Value} {base : Heap} {g : Gx} {fx : List Fx} {fa ea : Nat → Addr}
def FunsOk (P : Program) (w : World) (K : PySem.W.Frag) (mg : Str → Option Value) (base : Heap) (fx : List Fx) (fa ea : Nat → Addr) (k : Nat) : Prop := ∀ (f : Nat) (d : Fx) (fd : FuncData), fxAt fx f = some d → FunD K d.name d.name d.params d.text d.scope [] [] (fa f) fd → FnG P w K mg base (L2N.CX P w) k (fa f) fd (d.N.take d.np) (spF K (U0 fa ea) (dFun (progOf fx) k) f)
def HotsOk (P : Program) (w : World) (K : PySem.W.Frag) (mg : Str → Option Value) (base : Heap) (g : Gx) (fx : List Fx) (fa ea : Nat → Addr) (k : Nat) : Prop := ∀ (x : Str) (f : Nat) (d : Fx) (fd : FuncData), g.hot.lookup x = some f → fxAt fx f = some d → FunD K d.name d.name d.params d.text d.scope [] [] (fa f) fd → HotFn P w K mg base ea g.nc k (fa f) fd (d.N.take d.np) (fun c => dFun (progOf fx) k f [.exc c])
theorem gok_of (T : Top g fx K mg fa ea) (k : Nat) (ih : FunsOk P w K mg base fx fa ea k) (ihH : HotsOk P w K mg base g fx fa ea k) (U : Au) (X : Cx) (e1 : U.fa = fa) (e2 : U.ea = ea) (x1 : X.prog = P) (x2 : X.w = w) (x3 : X.K = K) (x4 : X.mg = mg) (x5 : X.base = base) : GOk g U (dFun (progOf fx) k) k X := by
  obtain ⟨ufa, uea, upx, uio⟩ := U
  obtain ⟨x_prog, x_w, x_K, x_mg, x_base⟩ := X
  cases e1
  cases e2
  cases x1
  cases x2
  cases x3
  cases x4
  cases x5
  refine ⟨fun x f' hx => ?_, fun x i hx => T.cst x i hx, fun x c hx => ?_, T.fre, fun x f' hx => ?_, T.kpf, fun f' as hb => ?_, T.sm, T.ec⟩
  · obtain ⟨d', e1, e2⟩ := T.gl x f' hx
    obtain ⟨fd', FD'⟩ := T.fn f' d' e1
    have hok' : fxOk g d' = true := List.all_eq_true.mp T.ok d' (List.mem_of_find?_eq_some e1)
    unfold fxOk at hok'
    rw [Bool.and_eq_true, Bool.and_eq_true] at hok'
    exact ⟨⟨fd', _, (ih f' d' fd' e1 FD').imp fun vs H Q E h => spF_fa (U := ⟨ufa, uea, upx, uio⟩) (U' := U0 ufa uea) rfl rfl vs H Q E h, FD'.bindsN fun _ _ _ _ _ _ us hl => bindArgs_plain hok'.1.2 us hl⟩, e2, FD'.kp⟩
  · obtain ⟨c1, c2, c3, c4, c5⟩ := T.cls x c hx
    exact ⟨c1, c2, c3, c4, c5⟩
  · obtain ⟨d', e1, e2, e3⟩ := T.hot x f' hx
    obtain ⟨fd', FD'⟩ := T.fn f' d' e1
    unfold fxHot at e3
    rw [Bool.and_eq_true, Bool.and_eq_true, Bool.and_eq_true] at e3
    have np : d'.np = 1 := of_decide_eq_true e3.2
    obtain ⟨_, hn⟩ := scope_of e3.1.1.1
    exact ⟨⟨fd', _, ihH x f' d' fd' hx e1 FD', by rw [List.length_take, Nat.min_eq_left hn, np], FD'.bindsN fun _ _ _ _ _ _ us hl => bindArgs_plain e3.1.1.2 us hl⟩, e2, FD'.kp⟩
  · cases k with
    | zero => exact absurd rfl hb
    | succ k =>
      cases e1 : fxAt fx f' with
      | none =>
        refine absurd ?_ hb
        show (match progOf fx f' with
          | some d => if as.length = d.np then _ else _
          | none => Out.bad) = _
        have : progOf fx f' = none := by unfold progOf; rw [e1]; rfl
        rw [this]
      | some d' =>
        obtain ⟨fd', FD'⟩ := T.fn f' d' e1
        have hok' : fxOk g d' = true := List.all_eq_true.mp T.ok d' (List.mem_of_find?_eq_some e1)
        unfold fxOk at hok'
        rw [Bool.and_eq_true, Bool.and_eq_true] at hok'
        exact ⟨fd', _, (ih f' d' fd' e1 FD').imp fun vs H Q E h => spF_fa (U := ⟨ufa, uea, upx, uio⟩) (U' := U0 ufa uea) rfl rfl vs H Q E h, FD'.bindsN fun _ _ _ _ _ _ us hl => bindArgs_plain hok'.1.2 us hl⟩
theorem fun_succ (T : Top g fx K mg fa ea) (k : Nat) (ih : FunsOk P w K mg base fx fa ea k) (ihH : HotsOk P w K mg base g fx fa ea k) : FunsOk P w K mg base fx fa ea (k + 1) := by
    intro f d fd hf FD
    have hok : fxOk g d = true := List.all_eq_true.mp T.ok d (List.mem_of_find?_eq_some hf)
    unfold fxOk at hok
    rw [Bool.and_eq_true, Bool.and_eq_true] at hok
    obtain ⟨⟨o1, o2⟩, o3⟩ := hok
    obtain ⟨S, hn⟩ := scope_of o1
    have hP : progOf fx f = some ⟨d.np, d.N.length, d.code⟩ := by unfold progOf; rw [hf]; rfl
    have eq : ∀ as, as.length = d.np → dFun (progOf fx) (k + 1) f as = endOf (isIo as) (dSs (dFun (progOf fx) k) d.code (as.map arB ++ List.replicate (d.N.length - d.np) .un)) := fun as ha => by
      show (match progOf fx f with
        | some d => if as.length = d.np then _ else _
        | none => _) = _
      rw [hP]
      exact if_pos ha
    have hlen : ∀ as (U : Au) F H io Q E, PostC U F H io (dFun (progOf fx) (k + 1) f as) Q E → as.length = d.np := fun as U F H io Q E h => by
      by_cases ha : as.length = d.np
      · exact ha
      · have e : dFun (progOf fx) (k + 1) f as = .bad := by
          show (match progOf fx f with
            | some d => if as.length = d.np then _ else _
            | none => _) = _
          rw [hP]
          exact if_neg ha
        rw [e] at h
        exact h.elim
    have lp : (d.N.take d.np).length = d.np := by rw [List.length_take, Nat.min_eq_left hn]
    refine fnG_of FD S (fun vs H Q E ⟨F, as, io, h1, h2, h3⟩ => by rw [lp, h2.len]; exact hlen _ _ _ _ _ _ _ h3) fun cdv A outer s H vs Q E hr gd ⟨F, as, io, h1, h2, h3⟩ => ?_
    have ha := hlen _ _ _ _ _ _ _ h3
    rw [eq as ha] at h3
    let U : Au := ⟨fa, ea, fun _ _ => False, io.getD 0⟩
    have ox : CxOk g (scOf d) U (fun cls dd _ H => E cls dd H) (dFun (progOf fx) k) k (cxOf (L2N.CX P w) P w K mg base d.N d.name d.scope (fa f) cdv A outer s H E) :=
      { N := rfl, nd := S.nd, nm := rfl, kd := S.kind, calm := rfl, hu := hr.units, room := fun _ => hr, gd := fun _ => gd, fn := fun _ _ => rfl, tk := L2N.takes_of rfl rfl rfl rfl, po := PassesOwn.leaving,
        gl := gok_of T k ih ihH U _ rfl rfl rfl rfl rfl rfl rfl, top := fun _ => ⟨rfl, rfl⟩,
        px := fun q c h => h.elim, pxc := fun _ q c h => h }
    refine ⟨tSs K U (fun cls dd _ H => E cls dd H) (dFun (progOf fx) k) d.code, (sndS g U _ k 60).ss _ _ _ _ _ ox o3, F, restH F H io, as.map arB ++ List.replicate (d.N.length - d.np) .un, ?_, ?_⟩
    · exact rep_start h1 (avs_fa (U := U0 fa ea) (U' := U) rfl h2) (fun p hp => by subst hp; rfl) (by rw [ha]; omega)
    · have ioeq : ∀ s', (ioS s' == isIo as) = true → ∀ p, io = some p → U.io = p ∧ ioS s' = true := fun s' hs p hp => by
        subst hp
        refine ⟨rfl, ?_⟩
        have hi : isIo as = true := by
          cases as with
          | nil => exact h2.elim
          | cons a r => cases a <;> first | rfl | exact h2.elim
        rw [hi] at hs
        simpa using hs
      cases q : dSs (dFun (progOf fx) k) d.code (as.map arB ++ List.replicate (d.N.length - d.np) .un) with
      | bad => rw [q] at h3; exact h3
      | exc c s' =>
        rw [q] at h3
        have h3 : PostC (U0 fa ea) F H io (match ioS s' == isIo as with
          | true => .exc c (ioOf s')
          | false => .bad) Q E := h3
        cases b : ioS s' == isIo as with
        | false => rw [b] at h3; exact h3.elim
        | true =>
          rw [b] at h3
          exact fun σ' H' F' a R => h3 H' F' (cgrow_of h1 a R (ioeq s' b))
      | ok fl s' =>
        rw [q] at h3
        cases fl with
        | next =>
          have h3 : PostC (U0 fa ea) F H io (match ioS s' == isIo as with
            | true => .ok (.dat .none) (ioOf s')
            | false => .bad) Q E := h3
          cases b : ioS s' == isIo as with
          | false => rw [b] at h3; exact h3.elim
          | true =>
            rw [b] at h3
            exact fun σ' H' F' a R => h3 .non H' F' (cgrow_of h1 a R (ioeq s' b)) .non
        | ret v =>
          have h3 : PostC (U0 fa ea) F H io (match ioS s' == isIo as, retV s' v with
            | true, some v => .ok v (ioOf s')
            | _, _ => .bad) Q E := h3
          cases b : ioS s' == isIo as with
          | false => rw [b] at h3; exact h3.elim
          | true =>
            cases r : retV s' v with
            | none => rw [b, r] at h3; exact h3.elim
            | some v' =>
              rw [b, r] at h3
              exact fun u σ' H' F' a R hv => h3 u H' F' (cgrow_of h1 a R (ioeq s' b)) (newV_of h1 a R hv r (ioeq s' b))
theorem all_ok (T : Top g fx K mg fa ea) : ∀ k : Nat, FunsOk P w K mg base fx fa ea k ∧ HotsOk P w K mg base g fx fa ea k
  | 0 => ⟨fun f d fd _ _ => ⟨fun vs H Q E ⟨_, _, _, _, _, h⟩ => h.elim, fun _ _ _ _ _ ⟨_, _, _, _, _, h⟩ => h.elim⟩, fun x f d fd _ _ _ A outer s H F args us Q E p c _ _ _ _ _ _ _ _ _ _ h => h.elim⟩
  | k + 1 => by
    obtain ⟨ih, ihH⟩ := all_ok T k
    refine ⟨fun_succ T k ih ihH, fun x f d fd hx hf FD => ?_⟩
    obtain ⟨d', e1, _, e3⟩ := T.hot x f hx
    rw [hf] at e1
    cases e1
    exact hot_succ k f d fd hf FD e3 fun U X e1 e2 x1 x2 x3 x4 x5 => gok_of T k ih ihH U X e1 e2 x1 x2 x3 x4 x5
theorem fun_ok (T : Top g fx K mg fa ea) (k f : Nat) (d : Fx) (fd : FuncData) (h : fxAt fx f = some d) (F : FunD K d.name d.name d.params d.text d.scope [] [] (fa f) fd) : FnG P w K mg base (L2N.CX P w) k (fa f) fd (d.N.take d.np) (spF K (U0 fa ea) (dFun (progOf fx) k) f) := (all_ok T k).1 f d fd h F
end
end Fc

/-! the head's facts -/
namespace Fc
open PySem PySem.Spec PyProof.Rows L2
def gOf (fx : List Fx) (cls : List (Str × Nat)) (cst : List (Str × Int)) (fre : List Str) (hot : List (Str × Nat)) : Gx := ⟨fx.map fun d => (d.name, d.no), cls, cst, fre, 17, hot⟩
/-- the defs that are handed the handled exception -/
def hotOk (g : Gx) (fx : List Fx) : Bool := g.hot.all fun y => decide (g.fns.lookup y.1 = some y.2) && (match fxAt fx y.2 with
  | some d => fxHot g d
  | none => false)
/-- the numbers are apart -/
def noOk (fx : List Fx) (cls : List (Str × Nat)) : Bool := (fx.any fun d => decide (d.name = ("law" : Str))) && (fx.all fun d => decide ((fxAt fx d.no).map (·.name) = some d.name)) && cls.all fun y => decide (((cls.find? fun z => z.2 == y.2).map (·.1)) = some y.1)
/-- what is asked of the top -/
def faOf (fx : List Fx) (cls : List (Str × Nat)) (cst : List (Str × Int)) (fre : List Str) : List He.Fa :=
  (fx.map fun d => He.Fa.glo d.name) ++ ((cls.map fun x => He.Fa.glo x.1) ++ ((cls.map fun x => He.Fa.exc x.1) ++ ((cst.map fun y => He.Fa.int y.1 y.2) ++ fre.map fun x => He.Fa.free x)))
def fnOf (fx : List Fx) : List He.DefD := fx.map fun d => ⟨(d.name, none), d.name, d.name, d.params, d.text, d.scope, [], []⟩
def faA (fx : List Fx) (K : PySem.W.Frag) (f : Nat) : Addr := He.fAd K ((((fxAt fx f).map (·.name)).getD "law"), none)
def eaA (cls : List (Str × Nat)) (K : PySem.W.Frag) (c : Nat) : Addr := He.ga K (((cls.find? fun z => z.2 == c).map (·.1)).getD "")
/-- the facts of the exception classes, as a test -/
def ecB (K : PySem.W.Frag) (ea : Nat → Addr) (n c : Nat) : Bool :=
  (PySem.W.clsIn K (ea c)).isSome && (He.eqO (PySem.W.findIn K (.ref (ea c)) "__getattribute__") (some (some (.builtin "BaseException.__getattribute__"))) && ((PySem.W.findIn K (.ref (ea c)) "__getattr__").isSome && (decide (PySem.W.subIn K (.ref (ea c)) (.type "BaseException") = some true)
    && (He.eqO (PySem.W.findIn K (.ref (ea c)) "__class__") (some (some (.builtin "object.__class__"))) && (He.eqO (PySem.W.specialIn K (.builtin "object.__class__") "__get__") (some (some (.builtin "getset_descriptor.__get__"))) && (decide (PySem.W.takesIn K (.builtin "object.__class__") = some true)
    && (decide (PySem.W.mroIn K (ea c) (.type "object") = some true) && (((List.range n).all fun k => decide (PySem.W.kitOne K (.ref (ea c)) (.ref (ea k)) = some (k == c || k == 0))) && decide (PySem.W.kitOne K (.ref (ea c)) (.type "ValueError") = some true)))))))))
theorem ecB_ok {K : PySem.W.Frag} {ea : Nat → Addr} {n c : Nat} (h : ecB K ea n c = true) : EcOk K ea n c := by
  obtain ⟨h1, h⟩ := He.ba h
  obtain ⟨h2, h⟩ := He.ba h
  obtain ⟨h3, h⟩ := He.ba h
  obtain ⟨h4, h⟩ := He.ba h
  obtain ⟨h5, h⟩ := He.ba h
  obtain ⟨h6, h⟩ := He.ba h
  obtain ⟨h7, h⟩ := He.ba h
  obtain ⟨h8, h⟩ := He.ba h
  obtain ⟨h9, h10⟩ := He.ba h
  exact ⟨h1, He.eqO_ok h2, Option.isSome_iff_exists.mp h3, of_decide_eq_true h4, He.eqO_ok h5, He.eqO_ok h6, of_decide_eq_true h7, of_decide_eq_true h8, fun k hk => of_decide_eq_true (List.all_eq_true.mp h9 k (List.mem_range.mpr hk)), of_decide_eq_true h10⟩
def ecAll (K : PySem.W.Frag) (ea : Nat → Addr) : Bool := (List.range 17).all fun c => ecB K ea 17 c && decide (PySem.W.exmOne K (.ref (ea c)) (.ref (ea 0)) = some true)
def ecHot (hot cls : List (Str × Nat)) (K : PySem.W.Frag) : Bool := hot.isEmpty || ecAll K (eaA cls K)
/-! ### the hook: the kit's facts, and a test of one's own -/
abbrev AlX : Type := Bool × He.AlD
def obsXG (n : Nat) (q : PySem.W.Frag → Bool) (fa : List He.Fa) (fn : List He.DefD) (g : Addr → Option Obj) : AlX := (q (He.frG g (sysModules :: He.asD g n)), He.obsD fa fn (He.frG g (sysModules :: He.asD g n)))
def hookX (n : Nat) (q : PySem.W.Frag → Bool) (fa : List He.Fa) (fn : List He.DefD) : PySem.W.Hook where
  α := AlX
  obs := fun s => obsXG n q fa fn s.heap.get?
  val := fun _ => (true, He.valD fn)
  says := fun _ h => ∃ K : PySem.W.Frag, K.In h ∧ q K = true ∧ He.SaysD fa fn K
  of := fun _ _ e => ⟨_, He.frG_in, congrArg (fun z : AlX => z.1) e, congrArg (fun z : AlX => z.2) e⟩
  keeps := fun _ _ _ ⟨K, hK, c, d⟩ k => ⟨K, PySem.W.Frag.In.keeps hK k, c, d⟩
theorem obsXG_eq {n : Nat} {q : PySem.W.Frag → Bool} {fa : List He.Fa} {fn : List He.DefD} {g : Addr → Option Obj} {s : Shared} (h : ∀ a, g a = s.heap.get? a) : obsXG n q fa fn g = (hookX n q fa fn).obs s := by
  have e : g = s.heap.get? := funext h
  rw [e] <;> rfl
theorem SaysD_mem {fa : List He.Fa} {fn : List He.DefD} {K : PySem.W.Frag} (c : He.SaysD fa fn K) {f : He.Fa} (h : f ∈ fa) : f.ok K = true := by
  obtain ⟨i, hi, e⟩ := List.getElem_of_mem h
  exact c.fact i (by rw [List.getElem?_eq_getElem hi, e])
theorem lookup_mem {α : Type} : ∀ {l : List (Str × α)} {x : Str} {a : α}, l.lookup x = some a → (x, a) ∈ l
  | [], _, _, h => by cases h
  | (y, b) :: l, x, a, h => by
    rw [List.lookup_cons] at h
    cases e : x == y with
    | true => rw [e] at h; cases h; rw [eq_of_beq e]; exact List.mem_cons_self
    | false => rw [e] at h; exact List.mem_cons_of_mem _ (lookup_mem h)
theorem glo_of {fx : List Fx} {cls : List (Str × Nat)} {cst : List (Str × Int)} {fre : List Str} {K : PySem.W.Frag} {h : Heap} {mg : Str → Option Value} (X : K.In h) (G : h.Ns mainGlobals mg) (c : He.SaysD (faOf fx cls cst fre) (fnOf fx) K) (no : noOk fx cls = true) (x : Str) (f : Nat) (hx : (fx.map fun d => (d.name, d.no)).lookup x = some f) : ∃ d, fxAt fx f = some d ∧ mg x = some (.ref (faA fx K f)) := by
    obtain ⟨d, hd, e⟩ := List.mem_map.mp (lookup_mem hx)
    cases e
    unfold noOk at no
    rw [Bool.and_eq_true, Bool.and_eq_true] at no
    have h1 := of_decide_eq_true (List.all_eq_true.mp no.1.2 d hd)
    cases e : fxAt fx d.no with
    | none => rw [e] at h1; cases h1
    | some d' =>
      rw [e] at h1
      have h2 : d'.name = d.name := Option.some.inj h1
      refine ⟨d', rfl, ?_⟩
      unfold faA
      rw [e]
      have m : He.Fa.glo d.name ∈ faOf fx cls cst fre := List.mem_append_left _ (List.mem_map.mpr ⟨d, hd, rfl⟩)
      rw [← h2]
      rw [← h2] at m
      exact He.glo_ok X G (SaysD_mem c m)
theorem top_of {fx : List Fx} {cls : List (Str × Nat)} {cst : List (Str × Int)} {fre : List Str} {hot : List (Str × Nat)} {K : PySem.W.Frag} {h : Heap} {mg : Str → Option Value} (X : K.In h) (G : h.Ns mainGlobals mg) (c : He.SaysD (faOf fx cls cst fre) (fnOf fx) K) (no : noOk fx cls = true) (ok : fx.all (fxOk (gOf fx cls cst fre hot)) = true) (hok : hotOk (gOf fx cls cst fre hot) fx = true) (ec : ecHot hot cls K = true) (sm : (K.lookup sysModules).isSome = true) :
    Top (gOf fx cls cst fre hot) fx K mg (faA fx K) (eaA cls K) where
  fn := fun f d hf => by
    have hm := List.mem_of_find?_eq_some hf
    obtain ⟨i, hi, e⟩ := List.getElem_of_mem hm
    obtain ⟨fd, F⟩ := c.def_ i (d := ⟨(d.name, none), d.name, d.name, d.params, d.text, d.scope, [], []⟩) (by unfold fnOf; rw [List.getElem?_map, List.getElem?_eq_getElem hi, e]; rfl)
    refine ⟨fd, ?_⟩
    unfold faA
    rw [hf]
    exact F
  gl := glo_of X G c no
  hot := fun x f hx => by
    have h1 := List.all_eq_true.mp hok (x, f) (lookup_mem hx)
    rw [Bool.and_eq_true] at h1
    obtain ⟨d, e1, e2⟩ := glo_of X G c no x f (of_decide_eq_true h1.1)
    have h2 := h1.2
    have e1' : fxAt fx (x, f).2 = some d := e1
    rw [e1'] at h2
    exact ⟨d, e1, e2, h2⟩
  sm := by
    cases e : K.lookup sysModules with
    | none => rw [e] at sm; cases sm
    | some o => exact ⟨o, rfl⟩
  kpf := fun f => by
    have kp : ∀ d ∈ fx, PySem.W.keepIn K (.ref (He.fAd K (d.name, none))) = true := fun d hm => by
      obtain ⟨i, hi, e⟩ := List.getElem_of_mem hm
      obtain ⟨fd, F⟩ := c.def_ i (d := ⟨(d.name, none), d.name, d.name, d.params, d.text, d.scope, [], []⟩) (by unfold fnOf; rw [List.getElem?_map, List.getElem?_eq_getElem hi, e]; rfl)
      exact F.kp
    unfold faA
    cases e : fxAt fx f with
    | some d => exact kp d (List.mem_of_find?_eq_some e)
    | none =>
      unfold noOk at no
      rw [Bool.and_eq_true, Bool.and_eq_true] at no
      obtain ⟨d, hd, e2⟩ := List.any_eq_true.mp no.1.1
      have := kp d hd
      rw [of_decide_eq_true e2] at this
      exact this
  ec := fun h k hk => by
    unfold ecHot at ec
    have h : hot.isEmpty = false := h
    rw [h, Bool.false_or] at ec
    have h1 := List.all_eq_true.mp ec k (List.mem_range.mpr hk)
    rw [Bool.and_eq_true] at h1
    exact ⟨ecB_ok h1.1, of_decide_eq_true h1.2⟩
  cst := fun x i hx => He.int_ok X G (SaysD_mem c (List.mem_append_right _ (List.mem_append_right _ (List.mem_append_right _ (List.mem_append_left _ (List.mem_map.mpr ⟨(x, i), lookup_mem hx, rfl⟩))))))
  fre := fun x hx => He.free_ok X G (SaysD_mem c (List.mem_append_right _ (List.mem_append_right _ (List.mem_append_right _ (List.mem_append_right _ (List.mem_map.mpr ⟨x, hx, rfl⟩))))))
  cls := fun x k hx => by
    have m := lookup_mem hx
    unfold noOk at no
    rw [Bool.and_eq_true, Bool.and_eq_true] at no
    have h1 := of_decide_eq_true (List.all_eq_true.mp no.2 (x, k) m)
    unfold eaA
    have h1 : (cls.find? fun z => z.2 == k).map (·.1) = some x := h1
    rw [h1]
    obtain ⟨a, b, c1, d⟩ := He.exc_ok (SaysD_mem c (List.mem_append_right _ (List.mem_append_right _ (List.mem_append_left _ (List.mem_map.mpr ⟨(x, k), m, rfl⟩)))))
    exact ⟨He.glo_ok X G (SaysD_mem c (List.mem_append_right _ (List.mem_append_left _ (List.mem_map.mpr ⟨(x, k), m, rfl⟩)))), b, a, c1, d⟩
  ok := ok
/-- the law's call -/
theorem law_sp {K : PySem.W.Frag} {U : Au} {Φ : Nat → List Ar → Out} {f : Nat} {H : Hp} {a : Addr} {ns : List Int} (hS : SqL K H a (ns.map V.int)) (hΦ : Φ f [.scr ns] = .ok (.dat (.bool true)) []) : spF K U Φ f [.ref a] H (fun v _ => v = .bl true) fun _ _ _ => False := by
  refine ⟨H, [.scr ns], none, Same.refl _, .cons (.scr hS) .nil, ?_⟩
  rw [hΦ]
  intro u H' F' g n
  cases n
  rfl
/-- an exception behind a call, whatever the world -/
def CXw (P : Program) : CXT := fun outer H s E e s' => ∃ w, L2N.CX P w outer H s E e s'
theorem FnG.cxw {P : Program} {w : World} {K : PySem.W.Frag} {mg : Str → Option Value} {base : Heap} {k : Nat} {f : Addr} {fd : FuncData} {ps : List Str} {sp : Sp} (F : FnG P w K mg base (L2N.CX P w) k f fd ps sp) : FnG P w K mg base (CXw P) k f fd ps sp :=
  ⟨F.len, fun hr gd he hb hv hs => codeAny_mono (F.run hr gd he hb hv hs) fun r s' hq => by
    cases r with
    | error e => exact ⟨w, hq⟩
    | ok fl => cases fl <;> exact hq⟩
theorem cx_no {P : Program} : ∀ (H : Hp) (s : Shared) (e : Value) (s' : Shared), CXw P [] H s (fun _ _ _ => False) e s' → False := by
  rintro H s e s' ⟨_, _, _, _, _, _, _, _, _, _, _, _, _, h⟩
  exact h
end Fc

namespace Fc
open PySem
/-- _law_take: number 83, slots 0=_law_pot_here 1=_law_far 2=_law_found -/
def c__law_take : Ss :=
  (.cons (.set 2 (.op2 .mod (.op2 .ix (.var 0) (.cst (.int 0))) (.var 1)))
  (.cons (.sti 0 (.cst (.int 0)) (.op2 .fdiv (.op2 .ix (.var 0) (.cst (.int 0))) (.var 1)))
  (.cons (.ret (.var 2))
  .nil)))
abbrev n__law_take : Nat := 83
abbrev d__law_take : Fd := ⟨2, 3, c__law_take⟩
def Rq__law_take (P : Nat → Option Fd) : Prop := P 83 = some d__law_take
/-- _law_odd: number 58, slots 0=_law_pot_here 1=_law_some -/
def c__law_odd : Ss :=
  (.cons (.set 1 (.lst (.cons (.cst .none) (.cons (.cst (.bool true)) (.cons (.cst (.bool false)) (.cons (.fn1 .neg (.cst (.int 1))) (.cons (.cst (.int 0)) (.cons (.cst (.int 16)) (.cons (.op2 .pow (.cst (.int 10)) (.cst (.int 30))) (.cons (.cst (.str "")) (.cons (.cst (.str "0,1")) (.cons (.tup .nil) (.cons (.tup (.cons (.tup .nil) .nil)) (.cons (.lst (.cons (.tup .nil) .nil)) (.cons (.tup (.cons (.cst (.int 0)) .nil)) (.cons .emp (.cons (.tup (.cons (.tup (.cons (.cst (.int 0)) (.cons (.cst (.int 1)) .nil))) (.cons (.lst (.cons (.cst (.int 2)) .nil)) .nil))) (.cons (.tup (.cons (.cst (.bool true)) .nil)) .nil))))))))))))))))))
  (.cons (.ret (.op2 .ix (.var 1) (.callIo 83 0 (.cons (.cst (.int 16)) .nil))))
  .nil))
abbrev n__law_odd : Nat := 58
abbrev d__law_odd : Fd := ⟨1, 2, c__law_odd⟩
def Rq__law_odd (P : Nat → Option Fd) : Prop := P 58 = some d__law_odd ∧ Rq__law_take P
/-- _law_bent_row: number 7, slots 0=_law_pot_here 1=_law_row_here 2=_law_way 3=_law_at 4=_law_odd_here 5=_law_bent -/
def c__law_bent_row : Ss :=
  (.cons (.par 2 3 (.callIo 83 0 (.cons (.cst (.int 9)) .nil)) (.callIo 83 0 (.cons (.fn1 .len (.var 1)) .nil)))
  (.cons (.set 4 (.op2 .ix (.lst (.cons (.cst (.bool true)) (.cons (.cst (.bool false)) (.cons (.cst .none) (.cons (.cst (.str "1")) (.cons (.tup (.cons (.cst (.int 1)) .nil)) (.cons (.lst (.cons (.cst (.int 1)) .nil)) (.cons .emp .nil)))))))) (.callIo 83 0 (.cons (.cst (.int 7)) .nil))))
  (.cons (.set 5 (.op2 .add (.op2 .add (.slcU (.var 1) (.var 3)) (.tup (.cons (.var 4) .nil))) (.slcL (.var 1) (.op2 .add (.var 3) (.cst (.int 1))))))
  (.cons (.ret (.op2 .ix (.lst (.cons (.var 5) (.cons (.var 5) (.cons (.var 5) (.cons (.fn1 .list (.var 1)) (.cons (.tup .nil) (.cons (.slcU (.op2 .mul (.var 1) (.cst (.int 13))) (.cst (.int 13))) (.cons (.tup (.cons (.var 1) .nil)) (.cons (.callIo 58 0 .nil) (.cons (.op2 .add (.op2 .add (.slcU (.var 1) (.var 3)) (.tup (.cons (.var 4) .nil))) (.slcL (.var 1) (.var 3))) .nil)))))))))) (.var 2)))
  .nil))))
abbrev n__law_bent_row : Nat := 7
abbrev d__law_bent_row : Fd := ⟨2, 6, c__law_bent_row⟩
def Rq__law_bent_row (P : Nat → Option Fd) : Prop := P 7 = some d__law_bent_row ∧ Rq__law_take P ∧ Rq__law_odd P
/-- _law_cell_at: number 13, slots 0=_law_script 1=_law_k -/
def c__law_cell_at : Ss :=
  (.cons (.ite_ (.op2 .lt (.var 1) (.fn1 .len (.var 0)))
  (.cons (.ret (.op2 .ix (.var 0) (.var 1)))
  .nil)
  .nil)
  (.cons (.ret (.cst (.int 0)))
  .nil))
abbrev n__law_cell_at : Nat := 13
abbrev d__law_cell_at : Fd := ⟨2, 2, c__law_cell_at⟩
def Rq__law_cell_at (P : Nat → Option Fd) : Prop := P 13 = some d__law_cell_at
/-- _law_ways: number 91, slots 0=_law_things 1=_law_number 2=_law_top 3=_law_bottom 4=_law_at -/
def c__law_ways : Ss :=
  (.cons (.ite_ (.op2 .gt (.var 1) (.var 0))
  (.cons (.ret (.cst (.int 0)))
  .nil)
  .nil)
  (.cons (.unp [2, 3] (.tup (.cons (.cst (.int 1)) (.cons (.cst (.int 1)) .nil))))
  (.cons (.for_ (.name 4) (.wip [1, 4] (.rng1 (.var 1)))
  (.cons (.set 2 (.op2 .mul (.var 2) (.op2 .sub (.var 0) (.var 4))))
  (.cons (.set 3 (.op2 .mul (.var 3) (.op2 .add (.var 4) (.cst (.int 1)))))
  (.cons (.wipe [1, 4])
  .nil))))
  (.cons (.ret (.op2 .fdiv (.var 2) (.var 3)))
  .nil))))
abbrev n__law_ways : Nat := 91
abbrev d__law_ways : Fd := ⟨2, 5, c__law_ways⟩
def Rq__law_ways (P : Nat → Option Fd) : Prop := P 91 = some d__law_ways
/-- _law_whole: number 92, slots 0=_law_thing -/
def c__law_whole : Ss :=
  (.cons (.ret (.and_ (.isi (.var 0) [.int]) (.not_ (.isi (.var 0) [.bool]))))
  .nil)
abbrev n__law_whole : Nat := 92
abbrev d__law_whole : Fd := ⟨1, 1, c__law_whole⟩
def Rq__law_whole (P : Nat → Option Fd) : Prop := P 92 = some d__law_whole
/-- _law_kind_of: number 44, slots 0=_law_e 1=_law_some 2=_law_words -/
def c__law_kind_of : Ss :=
  (.cons (.set 1 (.lst (.cons (.isi (.var 0) [.cls 1]) (.cons (.isi (.var 0) [.cls 2]) (.cons (.isi (.var 0) [.cls 3]) (.cons (.isi (.var 0) [.cls 4]) .nil))))))
  (.cons (.set 1 (.op2 .add (.var 1) (.lst (.cons (.isi (.var 0) [.cls 5]) (.cons (.isi (.var 0) [.cls 6]) (.cons (.isi (.var 0) [.cls 7]) (.cons (.isi (.var 0) [.cls 8]) .nil)))))))
  (.cons (.set 1 (.op2 .add (.var 1) (.lst (.cons (.isi (.var 0) [.cls 9]) (.cons (.isi (.var 0) [.cls 10]) (.cons (.isi (.var 0) [.cls 11]) (.cons (.isi (.var 0) [.cls 12]) .nil)))))))
  (.cons (.set 1 (.op2 .add (.var 1) (.lst (.cons (.isi (.var 0) [.cls 13]) (.cons (.isi (.var 0) [.cls 14]) (.cons (.isi (.var 0) [.cls 15]) (.cons (.isi (.var 0) [.cls 16]) .nil)))))))
  (.cons (.ite_ (.or_ (.op2 .ne (.mth .count (.var 1) (.cst (.bool true))) (.cst (.int 1))) (.not_ (.isi (.var 0) [.valueError])))
  (.cons (.ret (.cst (.str "other")))
  .nil)
  .nil)
  (.cons (.set 2 (.lst (.cons (.cst (.str "net")) (.cons (.cst (.str "face")) (.cons (.cst (.str "point")) (.cons (.cst (.str "apart")) (.cons (.cst (.str "many")) (.cons (.cst (.str "text")) (.cons (.cst (.str "row")) (.cons (.cst (.str "number")) (.cons (.cst (.str "level")) (.cons (.cst (.str "crowd")) (.cons (.cst (.str "way")) (.cons (.cst (.str "closed")) .nil))))))))))))))
  (.cons (.ret (.op2 .ix (.op2 .add (.var 2) (.lst (.cons (.cst (.str "swap")) (.cons (.cst (.str "places")) (.cons (.cst (.str "deed")) (.cons (.cst (.str "line")) .nil)))))) (.mth .index (.var 1) (.cst (.bool true)))))
  .nil)))))))
abbrev n__law_kind_of : Nat := 44
abbrev d__law_kind_of : Fd := ⟨1, 3, c__law_kind_of⟩
def Rq__law_kind_of (P : Nat → Option Fd) : Prop := P 44 = some d__law_kind_of
/-- _law_pot: number 66, slots 0=_law_cell 1=_law_number 2=_law_j 3=_law_more -/
def c__law_pot : Ss :=
  (.cons (.ite_ (.op2 .ge (.var 0) (.op2 .pow (.cst (.int 10)) (.cst (.int 18))))
  (.cons (.ret (.lst (.cons (.op2 .sub (.var 0) (.op2 .pow (.cst (.int 10)) (.cst (.int 18)))) .nil)))
  .nil)
  .nil)
  (.cons (.set 1 (.cst (.int 0)))
  (.cons (.for_ (.name 2) (.rng1 (.cst (.int 64)))
  (.cons (.set 3 (.op2 .mod (.op2 .mul (.op2 .add (.op2 .add (.op2 .mod (.var 0) (.cst (.int 2147483629))) (.op2 .mul (.cst (.int 7919)) (.var 2))) (.cst (.int 1))) (.cst (.int 48271))) (.cst (.int 2147483647))))
  (.cons (.set 3 (.op2 .mod (.op2 .add (.op2 .add (.op2 .mul (.var 3) (.var 3)) (.op2 .mul (.cst (.int 69621)) (.var 2))) (.cst (.int 7))) (.cst (.int 2147483587))))
  (.cons (.set 1 (.op2 .add (.op2 .mul (.var 1) (.cst (.int 2147483587))) (.var 3)))
  .nil))))
  (.cons (.ret (.lst (.cons (.var 1) .nil)))
  .nil))))
abbrev n__law_pot : Nat := 66
abbrev d__law_pot : Fd := ⟨1, 4, c__law_pot⟩
def Rq__law_pot (P : Nat → Option Fd) : Prop := P 66 = some d__law_pot
/-- _law_same: number 73, slots 0=_law_found 1=_law_due 2=_law_one 3=_law_other -/
def c__law_same : Ss :=
  (.cons (.ite_ (.isi (.var 1) [.list, .tuple])
  (.cons (.ite_ (.or_ (.op2 .ne (.isi (.var 1) [.list]) (.isi (.var 0) [.list])) (.op2 .ne (.isi (.var 1) [.tuple]) (.isi (.var 0) [.tuple])))
  (.cons (.ret (.cst (.bool false)))
  .nil)
  .nil)
  (.cons (.ret (.and_ (.op2 .eq (.fn1 .len (.var 0)) (.fn1 .len (.var 1))) (.fn1 .all (.comp (.call 73 (.cons (.var 2) (.cons (.var 3) .nil))) [2, 3] (.names [2, 3]) (.zip (.var 0) (.var 1))))))
  .nil))
  .nil)
  (.cons (.ite_ (.or_ (.fn1 .isN (.var 1)) (.or_ (.isi (.var 1) [.bool]) (.isi (.var 1) [.str])))
  (.cons (.ret (.and_ (.op2 .eq (.var 0) (.var 1)) (.op2 .eq (.isi (.var 0) [.bool]) (.isi (.var 1) [.bool]))))
  .nil)
  .nil)
  (.cons (.ret (.and_ (.call 92 (.cons (.var 0) .nil)) (.op2 .eq (.var 0) (.var 1))))
  .nil)))
abbrev n__law_same : Nat := 73
abbrev d__law_same : Fd := ⟨2, 4, c__law_same⟩
def Rq__law_same (P : Nat → Option Fd) : Prop := P 73 = some d__law_same ∧ Rq__law_whole P
/-- _law_word: number 93, slots 0=_law_e 1=_law_some 2=_law_words -/
def c__law_word : Ss :=
  (.cons (.set 1 (.lst (.cons (.isi (.var 0) [.cls 1]) (.cons (.isi (.var 0) [.cls 2]) (.cons (.isi (.var 0) [.cls 3]) (.cons (.isi (.var 0) [.cls 4]) .nil))))))
  (.cons (.set 1 (.op2 .add (.var 1) (.lst (.cons (.isi (.var 0) [.cls 5]) (.cons (.isi (.var 0) [.cls 6]) (.cons (.isi (.var 0) [.cls 7]) (.cons (.isi (.var 0) [.cls 8]) .nil)))))))
  (.cons (.set 1 (.op2 .add (.var 1) (.lst (.cons (.isi (.var 0) [.cls 9]) (.cons (.isi (.var 0) [.cls 10]) (.cons (.isi (.var 0) [.cls 11]) (.cons (.isi (.var 0) [.cls 12]) .nil)))))))
  (.cons (.set 1 (.op2 .add (.var 1) (.lst (.cons (.isi (.var 0) [.cls 13]) (.cons (.isi (.var 0) [.cls 14]) (.cons (.isi (.var 0) [.cls 15]) (.cons (.isi (.var 0) [.cls 16]) .nil)))))))
  (.cons (.ite_ (.or_ (.op2 .ne (.mth .count (.var 1) (.cst (.bool true))) (.cst (.int 1))) (.not_ (.isi (.var 0) [.valueError])))
  (.cons (.ret (.cst (.str "other")))
  .nil)
  .nil)
  (.cons (.set 2 (.lst (.cons (.cst (.str "net")) (.cons (.cst (.str "face")) (.cons (.cst (.str "point")) (.cons (.cst (.str "apart")) (.cons (.cst (.str "many")) (.cons (.cst (.str "text")) (.cons (.cst (.str "row")) (.cons (.cst (.str "number")) (.cons (.cst (.str "level")) (.cons (.cst (.str "crowd")) (.cons (.cst (.str "way")) (.cons (.cst (.str "closed")) .nil))))))))))))))
  (.cons (.ret (.op2 .ix (.op2 .add (.var 2) (.lst (.cons (.cst (.str "swap")) (.cons (.cst (.str "places")) (.cons (.cst (.str "deed")) (.cons (.cst (.str "line")) .nil)))))) (.mth .index (.var 1) (.cst (.bool true)))))
  .nil)))))))
abbrev n__law_word : Nat := 93
abbrev d__law_word : Fd := ⟨1, 3, c__law_word⟩
def Rq__law_word (P : Nat → Option Fd) : Prop := P 93 = some d__law_word
/-- ways: number 199, slots 0=things 1=number 2=found 3=turn -/
def c_ways : Ss :=
  (.cons (.ite_ (.op2 .gt (.var 1) (.var 0))
  (.cons (.ret (.cst (.int 0)))
  .nil)
  .nil)
  (.cons (.set 2 (.cst (.int 1)))
  (.cons (.for_ (.name 3) (.rng1 (.var 1))
  (.cons (.set 2 (.op2 .fdiv (.op2 .mul (.var 2) (.op2 .sub (.var 0) (.var 3))) (.op2 .add (.var 3) (.cst (.int 1)))))
  .nil))
  (.cons (.ret (.var 2))
  .nil))))
abbrev n_ways : Nat := 199
abbrev d_ways : Fd := ⟨2, 4, c_ways⟩
def Rq_ways (P : Nat → Option Fd) : Prop := P 199 = some d_ways
/-- is_whole: number 158, slots 0=thing -/
def c_is_whole : Ss :=
  (.cons (.ret (.and_ (.isi (.var 0) [.int]) (.not_ (.isi (.var 0) [.bool]))))
  .nil)
abbrev n_is_whole : Nat := 158
abbrev d_is_whole : Fd := ⟨1, 1, c_is_whole⟩
def Rq_is_whole (P : Nat → Option Fd) : Prop := P 158 = some d_is_whole
/-- is_upto: number 157, slots 0=thing 1=least 2=most -/
def c_is_upto : Ss :=
  (.cons (.ret (.and_ (.call 158 (.cons (.var 0) .nil)) (.chain .le .le (.var 1) (.var 0) (.var 2))))
  .nil)
abbrev n_is_upto : Nat := 157
abbrev d_is_upto : Fd := ⟨3, 3, c_is_upto⟩
def Rq_is_upto (P : Nat → Option Fd) : Prop := P 157 = some d_is_upto ∧ Rq_is_whole P
/-- back_of: number 101, slots 0=row 1=found 2=place 3=at -/
def c_back_of : Ss :=
  (.cons (.set 1 (.lst .nil))
  (.cons (.for_ (.name 2) (.rng1 (.fn1 .len (.var 0)))
  (.cons (.app 1 (.fn1 .sum (.comp (.op2 .mul (.op2 .ix (.var 0) (.var 3)) (.call 199 (.cons (.op2 .sub (.op2 .sub (.fn1 .len (.var 0)) (.cst (.int 1))) (.var 3)) (.cons (.op2 .sub (.var 2) (.var 3)) .nil)))) [3] (.name 3) (.rng1 (.op2 .add (.var 2) (.cst (.int 1)))))))
  .nil))
  (.cons (.ret (.fn1 .tuple (.var 1)))
  .nil)))
abbrev n_back_of : Nat := 101
abbrev d_back_of : Fd := ⟨1, 4, c_back_of⟩
def Rq_back_of (P : Nat → Option Fd) : Prop := P 101 = some d_back_of ∧ Rq_ways P
/-- even_of: number 128, slots 0=width 1=first 2=found 3=place -/
def c_even_of : Ss :=
  (.cons (.set 2 (.lst .nil))
  (.cons (.for_ (.name 3) (.rng1 (.op2 .add (.var 0) (.cst (.int 1))))
  (.cons (.app 2 (.op2 .ix (.var 1) (.fn2 .min (.var 3) (.op2 .sub (.var 0) (.var 3)))))
  .nil))
  (.cons (.ret (.call 101 (.cons (.var 2) .nil)))
  .nil)))
abbrev n_even_of : Nat := 128
abbrev d_even_of : Fd := ⟨2, 4, c_even_of⟩
def Rq_even_of (P : Nat → Option Fd) : Prop := P 128 = some d_even_of ∧ Rq_back_of P
/-- by_steps_of: number 112, slots 0=width 1=numbers 2=first 3=total 4=number -/
def c_by_steps_of : Ss :=
  (.cons (.set 2 (.lst .nil))
  (.cons (.set 3 (.cst (.int 0)))
  (.cons (.for_ (.name 4) (.of (.var 1))
  (.cons (.set 3 (.op2 .add (.var 3) (.var 4)))
  (.cons (.app 2 (.var 3))
  .nil)))
  (.cons (.ret (.call 128 (.cons (.var 0) (.cons (.var 2) .nil))))
  .nil))))
abbrev n_by_steps_of : Nat := 112
abbrev d_by_steps_of : Fd := ⟨2, 5, c_by_steps_of⟩
def Rq_by_steps_of (P : Nat → Option Fd) : Prop := P 112 = some d_by_steps_of ∧ Rq_even_of P
/-- are_numbers: number 100, slots 0=thing 1=many 2=one -/
def c_are_numbers : Ss :=
  (.cons (.ret (.and_ (.isi (.var 0) [.tuple]) (.and_ (.op2 .eq (.fn1 .len (.var 0)) (.var 1)) (.fn1 .all (.comp (.call 158 (.cons (.var 2) .nil)) [2] (.name 2) (.of (.var 0)))))))
  .nil)
abbrev n_are_numbers : Nat := 100
abbrev d_are_numbers : Fd := ⟨2, 3, c_are_numbers⟩
def Rq_are_numbers (P : Nat → Option Fd) : Prop := P 100 = some d_are_numbers ∧ Rq_is_whole P
/-- is_row: number 155, slots 0=thing -/
def c_is_row : Ss :=
  (.cons (.ret (.and_ (.isi (.var 0) [.tuple]) (.and_ (.chain .le .le (.cst (.int 1)) (.fn1 .len (.var 0)) (.cst (.int 12))) (.call 100 (.cons (.var 0) (.cons (.fn1 .len (.var 0)) .nil))))))
  .nil)
abbrev n_is_row : Nat := 155
abbrev d_is_row : Fd := ⟨1, 1, c_is_row⟩
def Rq_is_row (P : Nat → Option Fd) : Prop := P 155 = some d_is_row ∧ Rq_are_numbers P
/-- check_row: number 121, slots 0=row -/
def c_check_row : Ss :=
  (.cons (.ite_ (.not_ (.call 155 (.cons (.var 0) .nil)))
  (.cons (.raise_ 7)
  .nil)
  .nil)
  .nil)
abbrev n_check_row : Nat := 121
abbrev d_check_row : Fd := ⟨1, 1, c_check_row⟩
def Rq_check_row (P : Nat → Option Fd) : Prop := P 121 = some d_check_row ∧ Rq_is_row P
/-- turned_by: number 196, slots 0=width 1=numbers 2=found 3=place 4=total 5=at 6=many -/
def c_turned_by : Ss :=
  (.cons (.set 2 (.lst .nil))
  (.cons (.for_ (.name 3) (.rng1 (.fn1 .len (.var 1)))
  (.cons (.set 4 (.cst (.int 0)))
  (.cons (.for_ (.name 5) (.rng1 (.op2 .add (.var 3) (.cst (.int 1))))
  (.cons (.set 6 (.op2 .mul (.op2 .ix (.var 1) (.var 5)) (.call 199 (.cons (.op2 .sub (.var 0) (.var 5)) (.cons (.op2 .sub (.var 3) (.var 5)) .nil)))))
  (.cons (.set 4 (.op2 .add (.var 4) (.op2 .ix (.lst (.cons (.var 6) (.cons (.op2 .sub (.cst (.int 0)) (.var 6)) .nil))) (.op2 .mod (.op2 .sub (.var 3) (.var 5)) (.cst (.int 2))))))
  .nil)))
  (.cons (.app 2 (.var 4))
  .nil))))
  (.cons (.ret (.fn1 .tuple (.var 2)))
  .nil)))
abbrev n_turned_by : Nat := 196
abbrev d_turned_by : Fd := ⟨2, 7, c_turned_by⟩
def Rq_turned_by (P : Nat → Option Fd) : Prop := P 196 = some d_turned_by ∧ Rq_ways P
/-- turned_of: number 197, slots 0=row -/
def c_turned_of : Ss :=
  (.cons (.ret (.call 196 (.cons (.op2 .sub (.fn1 .len (.var 0)) (.cst (.int 1))) (.cons (.var 0) .nil))))
  .nil)
abbrev n_turned_of : Nat := 197
abbrev d_turned_of : Fd := ⟨1, 1, c_turned_of⟩
def Rq_turned_of (P : Nat → Option Fd) : Prop := P 197 = some d_turned_of ∧ Rq_turned_by P
/-- uneven_of: number 198, slots 0=row 1=found 2=place 3=number -/
def c_uneven_of : Ss :=
  (.cons (.set 1 (.call 197 (.cons (.var 0) .nil)))
  (.cons (.for_ (.names [2, 3]) (.enum (.var 1))
  (.cons (.ite_ (.op2 .ne (.var 3) (.op2 .ix (.var 1) (.op2 .sub (.op2 .sub (.fn1 .len (.var 1)) (.cst (.int 1))) (.var 2))))
  (.cons (.ret (.var 2))
  .nil)
  .nil)
  .nil))
  (.cons (.ret (.cst .none))
  .nil)))
abbrev n_uneven_of : Nat := 198
abbrev d_uneven_of : Fd := ⟨1, 4, c_uneven_of⟩
def Rq_uneven_of (P : Nat → Option Fd) : Prop := P 198 = some d_uneven_of ∧ Rq_turned_of P
/-- steps_of: number 187, slots 0=row 1=found 2=rise 3=at -/
def c_steps_of : Ss :=
  (.cons (.set 1 (.call 197 (.cons (.var 0) .nil)))
  (.cons (.set 2 (.comp (.op2 .sub (.op2 .ix (.var 1) (.var 3)) (.op2 .ix (.var 1) (.op2 .sub (.var 3) (.cst (.int 1))))) [3] (.name 3) (.rng2 (.cst (.int 1)) (.op2 .add (.op2 .fdiv (.op2 .sub (.fn1 .len (.var 0)) (.cst (.int 1))) (.cst (.int 2))) (.cst (.int 1))))))
  (.cons (.ret (.fn1 .tuple (.op2 .add (.lst (.cons (.op2 .ix (.var 1) (.cst (.int 0))) .nil)) (.var 2))))
  .nil)))
abbrev n_steps_of : Nat := 187
abbrev d_steps_of : Fd := ⟨1, 4, c_steps_of⟩
def Rq_steps_of (P : Nat → Option Fd) : Prop := P 187 = some d_steps_of ∧ Rq_turned_of P
/-- check_half: number 116, slots 0=width 1=numbers -/
def c_check_half : Ss :=
  (.cons (.ite_ (.not_ (.call 157 (.cons (.var 0) (.cons (.cst (.int 0)) (.cons (.cst (.int 11)) .nil)))))
  (.cons (.raise_ 8)
  .nil)
  .nil)
  (.cons (.ite_ (.not_ (.call 100 (.cons (.var 1) (.cons (.op2 .add (.op2 .fdiv (.var 0) (.cst (.int 2))) (.cst (.int 1))) .nil))))
  (.cons (.raise_ 7)
  .nil)
  .nil)
  .nil))
abbrev n_check_half : Nat := 116
abbrev d_check_half : Fd := ⟨2, 2, c_check_half⟩
def Rq_check_half (P : Nat → Option Fd) : Prop := P 116 = some d_check_half ∧ Rq_is_upto P ∧ Rq_are_numbers P
/-- by_half: number 110, slots 0=width 1=numbers -/
def c_by_half : Ss :=
  (.cons (.drop (.call 116 (.cons (.var 0) (.cons (.var 1) .nil))))
  (.cons (.ret (.call 128 (.cons (.var 0) (.cons (.call 196 (.cons (.var 0) (.cons (.var 1) .nil))) .nil))))
  .nil))
abbrev n_by_half : Nat := 110
abbrev d_by_half : Fd := ⟨2, 2, c_by_half⟩
def Rq_by_half (P : Nat → Option Fd) : Prop := P 110 = some d_by_half ∧ Rq_check_half P ∧ Rq_even_of P ∧ Rq_turned_by P
/-- by_steps: number 111, slots 0=width 1=numbers -/
def c_by_steps : Ss :=
  (.cons (.drop (.call 116 (.cons (.var 0) (.cons (.var 1) .nil))))
  (.cons (.ret (.call 112 (.cons (.var 0) (.cons (.var 1) .nil))))
  .nil))
abbrev n_by_steps : Nat := 111
abbrev d_by_steps : Fd := ⟨2, 2, c_by_steps⟩
def Rq_by_steps (P : Nat → Option Fd) : Prop := P 111 = some d_by_steps ∧ Rq_check_half P ∧ Rq_by_steps_of P
/-- first_uneven: number 140, slots 0=row -/
def c_first_uneven : Ss :=
  (.cons (.drop (.call 121 (.cons (.var 0) .nil)))
  (.cons (.ret (.call 198 (.cons (.var 0) .nil)))
  .nil))
abbrev n_first_uneven : Nat := 140
abbrev d_first_uneven : Fd := ⟨1, 1, c_first_uneven⟩
def Rq_first_uneven (P : Nat → Option Fd) : Prop := P 140 = some d_first_uneven ∧ Rq_check_row P ∧ Rq_uneven_of P
/-- is_even: number 149, slots 0=row -/
def c_is_even : Ss :=
  (.cons (.drop (.call 121 (.cons (.var 0) .nil)))
  (.cons (.ret (.fn1 .isN (.call 198 (.cons (.var 0) .nil))))
  .nil))
abbrev n_is_even : Nat := 149
abbrev d_is_even : Fd := ⟨1, 1, c_is_even⟩
def Rq_is_even (P : Nat → Option Fd) : Prop := P 149 = some d_is_even ∧ Rq_check_row P ∧ Rq_uneven_of P
/-- steps: number 186, slots 0=row -/
def c_steps : Ss :=
  (.cons (.drop (.call 121 (.cons (.var 0) .nil)))
  (.cons (.ret (.call 187 (.cons (.var 0) .nil)))
  .nil))
abbrev n_steps : Nat := 186
abbrev d_steps : Fd := ⟨1, 1, c_steps⟩
def Rq_steps (P : Nat → Option Fd) : Prop := P 186 = some d_steps ∧ Rq_check_row P ∧ Rq_steps_of P
/-- turned: number 194, slots 0=row -/
def c_turned : Ss :=
  (.cons (.drop (.call 121 (.cons (.var 0) .nil)))
  (.cons (.ret (.call 197 (.cons (.var 0) .nil)))
  .nil))
abbrev n_turned : Nat := 194
abbrev d_turned : Fd := ⟨1, 1, c_turned⟩
def Rq_turned (P : Nat → Option Fd) : Prop := P 194 = some d_turned ∧ Rq_check_row P ∧ Rq_turned_of P
/-- turned_back: number 195, slots 0=row -/
def c_turned_back : Ss :=
  (.cons (.drop (.call 121 (.cons (.var 0) .nil)))
  (.cons (.ret (.call 101 (.cons (.var 0) .nil)))
  .nil))
abbrev n_turned_back : Nat := 195
abbrev d_turned_back : Fd := ⟨1, 1, c_turned_back⟩
def Rq_turned_back (P : Nat → Option Fd) : Prop := P 195 = some d_turned_back ∧ Rq_check_row P ∧ Rq_back_of P
end Fc

/-! tools for what the pure code computes -/
namespace Fc
open PySem
/-- a call gives this from that depth on -/
def Spec (P : Nat → Option Fd) (L f : Nat) (as : List Ar) (r : Out) : Prop := ∀ K, L ≤ K → dFun P K f as = r
theorem Spec.mono {P : Nat → Option Fd} {L L' f : Nat} {as : List Ar} {r : Out} (h : Spec P L f as r) (hl : L ≤ L') : Spec P L' f as r := fun K hK => h K (Nat.le_trans hl hK)
/-! ### the code's equations -/
def tnF (Φ : Nat → List Ar → Out) (t : Tg) (b : Ss) : Fc.D → St → R Fl := fun x s => match setTg s t x with
  | some s2 => dSs Φ b s2
  | none => .bad
def tnC (Φ : Nat → List Ar → Out) (e : E) (own : List Nat) (t : Tg) : D → St → R (Option D) := fun x s => match setTg s t x with
  | some s2 => (dE Φ e s2).bind fun v s3 => match frz s3 v with
    | some (d, s4) => .ok (some d) (wipeB s4 own)
    | none => .bad
  | none => .bad
def tnIf (Φ : Nat → List Ar → Out) (e : E) (own : List Nat) (t : Tg) (c : E) : D → St → R (Option D) := fun x s => match setTg s t x with
  | some s2 => (dE Φ c s2).bind fun v s3 => (tru v s3).bind fun k s4 => match k with
    | true => (dE Φ e s4).bind fun v s5 => match frz s5 v with
      | some (d, s6) => .ok (some d) (wipeB s6 own)
      | none => .bad
    | false => .ok none (wipeB s4 own)
  | none => .bad
def R.seq (m : R Fl) (f : St → R Fl) : R Fl := match m with
  | .ok .next s1 => f s1
  | r => r
theorem seq_next (s : St) (f : St → R Fl) : (R.ok .next s).seq f = f s := id rfl
theorem seq_ret (v : Vl) (s : St) (f : St → R Fl) : (R.ok (.ret v) s).seq f = .ok (.ret v) s := id rfl
theorem seq_exc (c : Nat) (s : St) (f : St → R Fl) : (R.exc c s).seq f = .exc c s := id rfl
theorem seq_congr {m m' : R Fl} {f : St → R Fl} (h : m = m') : m.seq f = m'.seq f := by rw [h]
theorem R.bind_ok {α β : Type} (a : α) (s : St) (f : α → St → R β) : (R.ok a s).bind f = f a s := id rfl
theorem R.bind_exc {α β : Type} (c : Nat) (s : St) (f : α → St → R β) : (R.exc c s : R α).bind f = .exc c s := id rfl
theorem R.bind_congr {α β : Type} {m m' : R α} {f : α → St → R β} (h : m = m') : m.bind f = m'.bind f := by rw [h]
/-- by an option -/
def oR {α β : Type} (o : Option α) (f : α → R β) : R β := match o with
  | some a => f a
  | none => .bad
theorem oR_some {α β : Type} (a : α) (f : α → R β) : oR (some a) f = f a := id rfl
theorem oR_congr {α β : Type} {o o' : Option α} {f : α → R β} (h : o = o') : oR o f = oR o' f := by rw [h]
/-- one name's value -/
def look (i : Nat) : Option B → St → R Vl
  | some (.dat d), s => .ok (.dat d) s
  | some (.lst _), s => .ok (.slot i) s
  | some (.dct _), s => .ok (.slot i) s
  | some (.io _), s => .ok (.slot i) s
  | some (.fn f), s => .ok (.fn f) s
  | some (.exc c), s => .ok (.exc c) s
  | some (.scr ns), s => .ok (.scr ns) s
  | _, _ => .bad
/-- loops of comprehensions: no exception -/
def noX {α : Type} : R α → R α
  | .ok a s => .ok a s
  | _ => .bad
theorem noX_ok {α : Type} (a : α) (s : St) : noX (.ok a s) = .ok a s := id rfl
/-- b where the test is true -/
def gd {β : Type} (b : Bool) (m : R β) : R β := match b with
  | true => m
  | false => .bad
theorem gd_true {β : Type} (m : R β) : gd true m = m := id rfl
theorem gd_congr {β : Type} {b b' : Bool} {m : R β} (h : b = b') : gd b m = gd b' m := by rw [h]
def br {β : Type} (b : Bool) (m n : R β) : R β := match b with
  | true => m
  | false => n
theorem br_true {β : Type} (m n : R β) : br true m n = m := id rfl
theorem br_false {β : Type} (m n : R β) : br false m n = n := id rfl
theorem br_congr {β : Type} {b b' : Bool} {m n : R β} (h : b = b') : br b m n = br b' m n := by rw [h]
section
variable {Φ : Nat → List Ar → Out} {s : St}
theorem look_dat (i : Nat) (d : D) : look i (some (.dat d)) s = .ok (.dat d) s := id rfl
theorem look_lst (i : Nat) (xs : List D) : look i (some (.lst xs)) s = .ok (.slot i) s := id rfl
theorem look_dct (i : Nat) (xs : List (D × D)) : look i (some (.dct xs)) s = .ok (.slot i) s := id rfl
theorem look_io (i : Nat) (xs : List D) : look i (some (.io xs)) s = .ok (.slot i) s := id rfl
theorem look_fn (i f : Nat) : look i (some (.fn f)) s = .ok (.fn f) s := id rfl
theorem look_exc (i f : Nat) : look i (some (.exc f)) s = .ok (.exc f) s := id rfl
theorem look_scr (i : Nat) (ns : List Int) : look i (some (.scr ns)) s = .ok (.scr ns) s := id rfl
theorem e_var (i : Nat) : dE Φ (.var i) s = look i s[i]? s := by
  unfold dE look
  cases s[i]? with
  | none => rfl
  | some b => cases b <;> rfl
theorem e_cst (d : D) : dE Φ (.cst d) s = .ok (.dat d) s := id rfl
theorem e_gfn (f : Nat) : dE Φ (.gfn f) s = .ok (.fn f) s := id rfl
theorem e_op2 (p : Op2) (a b : E) : dE Φ (.op2 p a b) s = (dE Φ a s).bind fun v s1 => (dE Φ b s1).bind fun w s2 => op2 p v w s2 := id rfl
theorem e_fn1 (p : Fn1) (a : E) : dE Φ (.fn1 p a) s = (dE Φ a s).bind fun v s1 => fn1 p v s1 := id rfl
theorem e_fn2 (p : Fn2) (a b : E) : dE Φ (.fn2 p a b) s = (dE Φ a s).bind fun v s1 => (dE Φ b s1).bind fun w s2 => fn2 p v w s2 := id rfl
theorem e_isi (a : E) (ts : List Ty) : dE Φ (.isi a ts) s = (dE Φ a s).bind fun v s1 => isi v ts s1 := id rfl
theorem e_and (a b : E) : dE Φ (.and_ a b) s = (dE Φ a s).bind fun v s1 => (tru v s1).bind fun c s2 => br c (dE Φ b s2) (.ok (.dat (.bool false)) s2) := id rfl
theorem e_or (a b : E) : dE Φ (.or_ a b) s = (dE Φ a s).bind fun v s1 => (tru v s1).bind fun c s2 => br c (.ok (.dat (.bool true)) s2) (dE Φ b s2) := id rfl
theorem e_not (a : E) : dE Φ (.not_ a) s = (dE Φ a s).bind fun v s1 => (tru v s1).bind fun c s2 => .ok (.dat (.bool (!c))) s2 := id rfl
theorem e_ite (c a b : E) : dE Φ (.ite_ c a b) s = (dE Φ c s).bind fun v s1 => (tru v s1).bind fun k s2 => br k (dE Φ a s2) (dE Φ b s2) := id rfl
theorem e_chain (p q : Op2) (a b c : E) : dE Φ (.chain p q a b c) s = (dE Φ a s).bind fun v s1 => (dE Φ b s1).bind fun w s2 => (op2 p v w s2).bind fun z s3 => (tru z s3).bind fun k s4 => br k ((dE Φ c s4).bind fun u s5 => op2 q w u s5) (.ok (.dat (.bool false)) s4) := id rfl
theorem e_lst (es : Es) : dE Φ (.lst es) s = (dEs Φ es s).bind fun vs s1 => oR (frzs s1 vs) fun y => gd (lenOk y.1.length) (.ok (.newL y.1) y.2) := by
  show (dEs Φ es s).bind _ = _
  congr 1; funext vs s1
  cases frzs s1 vs with
  | none => rfl
  | some y => obtain ⟨ds, s2⟩ := y; show (if lenOk ds.length then _ else _) = gd (lenOk ds.length) _; cases lenOk ds.length <;> rfl
theorem e_tup (es : Es) : dE Φ (.tup es) s = (dEs Φ es s).bind fun vs s1 => oR (frzs s1 vs) fun y => gd (lenOk y.1.length) (.ok (.dat (.tuple y.1)) y.2) := by
  show (dEs Φ es s).bind _ = _
  congr 1; funext vs s1
  cases frzs s1 vs with
  | none => rfl
  | some y => obtain ⟨ds, s2⟩ := y; show (if lenOk ds.length then _ else _) = gd (lenOk ds.length) _; cases lenOk ds.length <;> rfl
theorem e_emp : dE Φ .emp s = .ok (.newD []) s := id rfl
theorem e_nil : dEs Φ .nil s = .ok [] s := id rfl
theorem e_cons (e : E) (es : Es) : dEs Φ (.cons e es) s = (dE Φ e s).bind fun v s1 => (dEs Φ es s1).bind fun vs s2 => .ok (v :: vs) s2 := id rfl
theorem e_slcL (a lo : E) : dE Φ (.slcL a lo) s = (dE Φ a s).bind fun v s1 => (dE Φ lo s1).bind fun w s2 => (intOf w s2).bind fun i s3 => cutV v (some i) none s3 := id rfl
theorem e_slcU (a lo : E) : dE Φ (.slcU a lo) s = (dE Φ a s).bind fun v s1 => (dE Φ lo s1).bind fun w s2 => (intOf w s2).bind fun i s3 => cutV v none (some i) s3 := id rfl
theorem e_call (f : Nat) (es : Es) : dE Φ (.call f es) s = (dEs Φ es s).bind fun vs s1 => oR (args s1 vs) fun y => ofOut y.2 (Φ f y.1) := by
  show (dEs Φ es s).bind _ = _
  congr 1; funext vs s1
  show callF Φ f vs s1 = _
  unfold callF
  cases args s1 vs <;> rfl
/-- an in-out list's slot -/
def ioCall (Φ : Nat → List Ar → Out) (f i : Nat) (as : List Ar) (s : St) : Option B → R Vl
  | some (.lst xs) => ofOutIo s i (Φ f (.io xs :: as))
  | some (.io xs) => ofOutIo s i (Φ f (.io xs :: as))
  | _ => .bad
theorem ioCall_lst (f i : Nat) (as : List Ar) (xs : List D) : ioCall Φ f i as s (some (.lst xs)) = ofOutIo s i (Φ f (.io xs :: as)) := id rfl
theorem ioCall_io (f i : Nat) (as : List Ar) (xs : List D) : ioCall Φ f i as s (some (.io xs)) = ofOutIo s i (Φ f (.io xs :: as)) := id rfl
theorem e_callIo (f i : Nat) (es : Es) : dE Φ (.callIo f i es) s = gd (ownL s i) ((dEs Φ es s).bind fun vs s1 => oR (args s1 vs) fun y => ioCall Φ f i y.1 y.2 y.2[i]?) := by
  show (match ownL s i with
    | true => _
    | false => _) = _
  cases ownL s i with
  | false => rfl
  | true =>
    show (dEs Φ es s).bind _ = _
    unfold gd
    congr 1; funext vs s1
    show callIoF Φ f i vs s1 = _
    unfold callIoF
    cases args s1 vs with
    | none => rfl
    | some y =>
      obtain ⟨as, s2⟩ := y
      show (match s2[i]? with
        | some (.lst xs) => _
        | some (.io xs) => _
        | _ => _) = ioCall Φ f i as s2 s2[i]?
      cases s2[i]? with
      | none => rfl
      | some b => cases b <;> rfl
theorem e_comp (e : E) (own : List Nat) (tg : Tg) (it : It) : dE Φ (.comp e own tg it) s = (dIt Φ it s).bind fun xs s1 => gd (ownOk s1 own) ((noX (loopC (tnC Φ e own tg) xs [] (wipeB s1 own))).bind fun ds s5 => .ok (.newL ds) (backB s1 s5 own)) := by
  show (dIt Φ it s).bind _ = _
  congr 1; funext xs s1
  cases ownOk s1 own with
  | false => rfl
  | true =>
    show (match loopC (tnC Φ e own tg) xs [] (wipeB s1 own) with
      | .ok ds s5 => R.ok (Vl.newL ds) (backB s1 s5 own)
      | _ => .bad) = _
    unfold gd
    cases loopC (tnC Φ e own tg) xs [] (wipeB s1 own) <;> rfl
theorem e_compIf (e : E) (own : List Nat) (tg : Tg) (it : It) (c : E) : dE Φ (.compIf e own tg it c) s = (dIt Φ it s).bind fun xs s1 => gd (ownOk s1 own) ((noX (loopC (tnIf Φ e own tg c) xs [] (wipeB s1 own))).bind fun ds s5 => .ok (.newL ds) (backB s1 s5 own)) := by
  show (dIt Φ it s).bind _ = _
  congr 1; funext xs s1
  cases ownOk s1 own with
  | false => rfl
  | true =>
    show (match loopC (tnIf Φ e own tg c) xs [] (wipeB s1 own) with
      | .ok ds s5 => R.ok (Vl.newL ds) (backB s1 s5 own)
      | _ => .bad) = _
    unfold gd
    cases loopC (tnIf Φ e own tg c) xs [] (wipeB s1 own) <;> rfl
theorem t_C (e : E) (own : List Nat) (t : Tg) (x : D) : tnC Φ e own t x s = oR (setTg s t x) fun s2 => (dE Φ e s2).bind fun v s3 => oR (frz s3 v) fun y => .ok (some y.1) (wipeB y.2 own) := by
  unfold tnC
  cases setTg s t x with
  | none => rfl
  | some s2 =>
    show (dE Φ e s2).bind _ = _
    unfold oR
    congr 1; funext v s3
    cases frz s3 v <;> rfl
theorem t_If (e : E) (own : List Nat) (t : Tg) (c : E) (x : D) : tnIf Φ e own t c x s = oR (setTg s t x) fun s2 => (dE Φ c s2).bind fun v s3 => (tru v s3).bind fun k s4 => br k ((dE Φ e s4).bind fun v s5 => oR (frz s5 v) fun y => .ok (some y.1) (wipeB y.2 own)) (.ok none (wipeB s4 own)) := by
  unfold tnIf
  cases setTg s t x with
  | none => rfl
  | some s2 =>
    show (dE Φ c s2).bind _ = _
    unfold oR
    congr 1; funext v s3
    congr 1; funext k s4
    cases k with
    | false => rfl
    | true =>
      show (dE Φ e s4).bind _ = (dE Φ e s4).bind _
      congr 1; funext v s5
      cases frz s5 v <;> rfl
theorem t_F (t : Tg) (b : Ss) (x : D) : tnF Φ t b x s = oR (setTg s t x) fun s2 => dSs Φ b s2 := by
  unfold tnF
  cases setTg s t x <;> rfl
theorem i_of (e : E) : dIt Φ (.of e) s = (dE Φ e s).bind fun v s1 => oR (frz s1 v) fun y => ofO y.2 (seqOf y.1) := by
  show (dE Φ e s).bind _ = _
  congr 1; funext v s1
  cases frz s1 v <;> rfl
theorem i_rng1 (a : E) : dIt Φ (.rng1 a) s = (dE Φ a s).bind fun v s1 => (intOf v s1).bind fun i s2 => gd (rngOk i) (.ok (iotaI 0 i.toNat) s2) := id rfl
theorem i_rng2 (a b : E) : dIt Φ (.rng2 a b) s = (dE Φ a s).bind fun v s1 => (intOf v s1).bind fun i s2 => (dE Φ b s2).bind fun w s3 => (intOf w s3).bind fun j s4 => gd (rngOk i && rngOk j) (.ok (iotaI i (j - i).toNat) s4) := id rfl
theorem i_enum (e : E) : dIt Φ (.enum e) s = (dE Φ e s).bind fun v s1 => oR (frz s1 v) fun y => oR (seqOf y.1) fun xs => .ok (enumD 0 xs) y.2 := by
  show (dE Φ e s).bind _ = _
  congr 1; funext v s1
  cases frz s1 v with
  | none => rfl
  | some y => obtain ⟨d, s2⟩ := y; show (match seqOf d with | some xs => _ | none => _) = oR (seqOf d) _; cases seqOf d <;> rfl
def zipS : D → D → Option (List D)
  | .list xs, .list ys => some (zipD xs ys)
  | .tuple xs, .tuple ys => some (zipD xs ys)
  | _, _ => none
theorem i_zip (a b : E) : dIt Φ (.zip a b) s = (dE Φ a s).bind fun v s1 => (dE Φ b s1).bind fun w s2 => oR (frz s2 v) fun y => oR (frz y.2 w) fun z => ofO z.2 (zipS y.1 z.1) := by
  show (dE Φ a s).bind _ = _
  congr 1; funext v s1
  congr 1; funext w s2
  cases frz s2 v with
  | none => rfl
  | some y =>
    obtain ⟨d, s3⟩ := y
    show (match frz s3 w with
      | some (e, s4) => match d, e with
        | .list xs, .list ys => R.ok (zipD xs ys) s4
        | .tuple xs, .tuple ys => R.ok (zipD xs ys) s4
        | _, _ => .bad
      | none => .bad) = oR (frz s3 w) _
    cases frz s3 w with
    | none => rfl
    | some z =>
      obtain ⟨e, s4⟩ := z
      cases d <;> cases e <;> rfl
theorem s_nil : dSs Φ .nil s = .ok .next s := id rfl
theorem s_cons (x : S) (xs : Ss) : dSs Φ (.cons x xs) s = (dS Φ x s).seq fun s1 => dSs Φ xs s1 := id rfl
theorem s_set (i : Nat) (e : E) : dS Φ (.set i e) s = (dE Φ e s).bind fun v s1 => ofS .next (setV s1 i v) := id rfl
theorem s_unp (is : List Nat) (e : E) : dS Φ (.unp is e) s = (dE Φ e s).bind fun v s1 => oR (frz s1 v) fun y => oR (tupOf y.1) fun ds => ofS .next (setDs y.2 is ds) := by
  show (dE Φ e s).bind _ = _
  congr 1; funext v s1
  cases frz s1 v with
  | none => rfl
  | some y => obtain ⟨d, s2⟩ := y; show (match tupOf d with | some ds => _ | none => _) = oR (tupOf d) _; cases tupOf d <;> rfl
theorem s_par (i j : Nat) (a b : E) : dS Φ (.par i j a b) s = (dE Φ a s).bind fun v s1 => (dE Φ b s1).bind fun w s2 => oR (frz s2 v) fun y => oR (frz y.2 w) fun z => ofS .next (setDs z.2 [i, j] [y.1, z.1]) := by
  show (dE Φ a s).bind _ = _
  congr 1; funext v s1
  congr 1; funext w s2
  cases frz s2 v with
  | none => rfl
  | some y =>
    obtain ⟨d, s3⟩ := y
    show (match frz s3 w with
      | some (e, s4) => ofS Fl.next (setDs s4 [i, j] [d, e])
      | none => R.bad) = oR (frz s3 w) _
    cases frz s3 w <;> rfl
theorem s_drop (e : E) : dS Φ (.drop e) s = (dE Φ e s).bind fun _ s1 => .ok .next s1 := id rfl
theorem s_ret (e : E) : dS Φ (.ret e) s = (dE Φ e s).bind fun v s1 => .ok (.ret v) s1 := id rfl
theorem s_ite (c : E) (a b : Ss) : dS Φ (.ite_ c a b) s = (dE Φ c s).bind fun v s1 => (tru v s1).bind fun k s2 => br k (dSs Φ a s2) (dSs Φ b s2) := id rfl
theorem s_for (tg : Tg) (it : It) (b : Ss) : dS Φ (.for_ tg it b) s = (dIt Φ it s).bind fun xs s1 => loopF (tnF Φ tg b) xs s1 := id rfl
theorem s_raise (c : Nat) : dS Φ (.raise_ c) s = .exc c s := id rfl
def lstOf : Option B → Option (List D)
  | some (.lst xs) => some xs
  | _ => none
theorem s_app (i : Nat) (e : E) : dS Φ (.app i e) s = oR (lstOf s[i]?) fun _ => (dE Φ e s).bind fun v s1 => oR (frz s1 v) fun y => oR (lstOf y.2[i]?) fun xs => gd (lenOk (xs.length + 1)) (.ok .next (y.2.set i (.lst (xs ++ [y.1])))) := by
  show (match s[i]? with
    | some (.lst _) => _
    | _ => _) = _
  cases s[i]? with
  | none => rfl
  | some b =>
    cases b with
    | lst xs =>
      show (dE Φ e s).bind _ = (dE Φ e s).bind _
      congr 1; funext v s1
      cases frz s1 v with
      | none => rfl
      | some y =>
        obtain ⟨d, s2⟩ := y
        show (match s2[i]? with
          | some (.lst xs) => if lenOk (xs.length + 1) then R.ok Fl.next (s2.set i (.lst (xs ++ [d]))) else .bad
          | _ => .bad) = oR (lstOf s2[i]?) _
        cases s2[i]? with
        | none => rfl
        | some b =>
          cases b with
          | lst xs => show (if _ then _ else _) = gd _ _; cases lenOk (xs.length + 1) <;> rfl
          | _ => rfl
    | _ => rfl
/-- xs[j] = d -/
def stB (s : St) (i : Nat) (n : Int) (d : D) : Option B → R Fl
  | some (.lst xs) => oR (L2.ixN xs.length n) fun j => .ok .next (s.set i (.lst (xs.set j d)))
  | some (.io xs) => oR (L2.ixN xs.length n) fun j => .ok .next (s.set i (.io (xs.set j d)))
  | _ => .bad
theorem stB_lst (i : Nat) (n : Int) (d : D) (xs : List D) : stB s i n d (some (.lst xs)) = oR (L2.ixN xs.length n) fun j => .ok .next (s.set i (.lst (xs.set j d))) := id rfl
theorem stB_io (i : Nat) (n : Int) (d : D) (xs : List D) : stB s i n d (some (.io xs)) = oR (L2.ixN xs.length n) fun j => .ok .next (s.set i (.io (xs.set j d))) := id rfl
theorem s_sti (i : Nat) (k e : E) : dS Φ (.sti i k e) s = (dE Φ e s).bind fun v s1 => oR (frz s1 v) fun y => gd (ownL y.2 i) ((dE Φ k y.2).bind fun w s3 => (intOf w s3).bind fun n s4 => stB s4 i n y.1 s4[i]?) := by
  show (dE Φ e s).bind _ = _
  congr 1; funext v s1
  cases frz s1 v with
  | none => rfl
  | some y =>
    obtain ⟨d, s2⟩ := y
    show (match ownL s2 i with
      | true => _
      | false => _) = gd (ownL s2 i) _
    cases ownL s2 i with
    | false => rfl
    | true =>
      show (dE Φ k s2).bind _ = (dE Φ k s2).bind _
      congr 1; funext w s3
      congr 1; funext n s4
      cases s4[i]? with
      | none => rfl
      | some b =>
        cases b with
        | lst xs => show (match L2.ixN xs.length n with | some j => _ | none => _) = oR _ _; unfold oR; cases L2.ixN xs.length n <;> rfl
        | io xs => show (match L2.ixN xs.length n with | some j => _ | none => _) = oR _ _; unfold oR; cases L2.ixN xs.length n <;> rfl
        | _ => rfl
end
theorem tru_bool (b : Bool) (s : St) : tru (.dat (.bool b)) s = .ok b s := id rfl
theorem intOf_int (i : Int) (s : St) : intOf (.dat (.int i)) s = .ok i s := id rfl
theorem ofO_some {α : Type} (a : α) (s : St) : ofO s (some a) = .ok a s := id rfl
theorem ofS_some {α : Type} (a : α) (s : St) : ofS a (some s) = .ok a s := id rfl
theorem ofOut_ok (s : St) (v : Vl) (xs : List D) : ofOut s (.ok v xs) = .ok v s := id rfl
theorem ofOut_exc (s : St) (c : Nat) (xs : List D) : ofOut s (.exc c xs) = .exc c s := id rfl
def opd (p : Op2) (s : St) : Option D → Option D → R Vl
  | some d, some e => ofO s (evOp2 p d e)
  | _, _ => .bad
theorem opd_some (p : Op2) (s : St) (d e : D) : opd p s (some d) (some e) = ofO s (evOp2 p d e) := id rfl
theorem op2_dat (p : Op2) (d : D) (w : Vl) (s : St) : op2 p (.dat d) w s = opd p s (some d) (peek s w) := by
  show (match some d, peek s w with | some d, some e => _ | _, _ => _) = _
  cases peek s w <;> rfl
theorem op2_newL (p : Op2) (d : List D) (w : Vl) (s : St) : op2 p (.newL d) w s = opd p s (some (.list d)) (peek s w) := by
  show (match some (PyData.list d), peek s w with | some d, some e => _ | _, _ => _) = _
  cases peek s w <;> rfl
theorem op2_slot (p : Op2) (i : Nat) (w : Vl) (s : St) : op2 p (.slot i) w s = opd p s (peek s (.slot i)) (peek s w) := by
  show (match peek s (.slot i), peek s w with | some d, some e => _ | _, _ => _) = _
  cases peek s (.slot i) <;> cases peek s w <;> rfl
def fnd (p : Fn1) (s : St) : Option D → R Vl
  | some d => ofO s (evFn1 p d)
  | none => .bad
theorem fnd_some (p : Fn1) (s : St) (d : D) : fnd p s (some d) = ofO s (evFn1 p d) := id rfl
theorem fn1_dat (p : Fn1) (d : D) (s : St) : fn1 p (.dat d) s = ofO s (evFn1 p d) := id rfl
theorem fn1_newL (p : Fn1) (d : List D) (s : St) : fn1 p (.newL d) s = ofO s (evFn1 p (.list d)) := id rfl
theorem fn1_slot (p : Fn1) (i : Nat) (s : St) : fn1 p (.slot i) s = fnd p s (peek s (.slot i)) := by
  show (match peek s (.slot i) with | some d => _ | none => _) = _
  cases peek s (.slot i) <;> rfl
theorem fn1_scr (ns : List Int) (s : St) : fn1 .len (.scr ns) s = .ok (.dat (.int ns.length)) s := id rfl
theorem op2_scr' (ns : List Int) (i : Int) (s : St) : op2 .ix (.scr ns) (.dat (.int i)) s = ofO s ((L2.atI ns i).map fun n => .dat (.int n)) := id rfl
theorem fn2_dat (p : Fn2) (d e : D) (s : St) : fn2 p (.dat d) (.dat e) s = ofO s (evFn2 p d e) := id rfl
theorem peek_dat' (s : St) (d : D) : peek s (.dat d) = some d := id rfl
theorem peek_newL (s : St) (d : List D) : peek s (.newL d) = some (.list d) := id rfl
def pkB : Option B → Option D
  | some (.lst xs) => some (.list xs)
  | some (.io xs) => some (.list xs)
  | some (.dct kvs) => some (.dict kvs)
  | _ => none
theorem pkB_lst (xs : List D) : pkB (some (.lst xs)) = some (.list xs) := id rfl
theorem pkB_io (xs : List D) : pkB (some (.io xs)) = some (.list xs) := id rfl
theorem peek_slot (s : St) (i : Nat) : peek s (.slot i) = pkB s[i]? := by
  show (match s[i]? with
    | some (.lst xs) => some (PyData.list xs)
    | some (.io xs) => some (PyData.list xs)
    | some (.dct kvs) => some (PyData.dict kvs)
    | _ => none) = _
  cases s[i]? with
  | none => rfl
  | some b => cases b <;> rfl
theorem isi_dat (d : D) (ts : List Ty) (s : St) : isi (.dat d) ts s = gd (ts.all plainTy) (.ok (.dat (.bool (isTys d ts))) s) := by
  show (if _ then _ else _) = _
  cases ts.all plainTy <;> rfl
theorem frz_dat (s : St) (d : D) : frz s (.dat d) = some (d, s) := id rfl
theorem frz_newL (s : St) (d : List D) : frz s (.newL d) = some (.list d, s) := id rfl
theorem frz_newD (s : St) : frz s (.newD []) = some (.dict [], s) := id rfl
def fzB (s : St) (i : Nat) : Option B → Option (D × St)
  | some (.lst xs) => some (.list xs, s.set i (.dat (.list xs)))
  | _ => none
theorem fzB_lst (s : St) (i : Nat) (xs : List D) : fzB s i (some (.lst xs)) = some (.list xs, s.set i (.dat (.list xs))) := id rfl
theorem frz_slot (s : St) (i : Nat) : frz s (.slot i) = fzB s i s[i]? := by
  show (match s[i]? with
    | some (.lst xs) => some (PyData.list xs, s.set i (.dat (.list xs)))
    | _ => none) = _
  cases s[i]? with
  | none => rfl
  | some b => cases b <;> rfl
theorem frzs_nil (s : St) : frzs s [] = some ([], s) := id rfl
def oO {α β : Type} (o : Option α) (f : α → Option β) : Option β := match o with
  | some a => f a
  | none => none
theorem oO_some {α β : Type} (a : α) (f : α → Option β) : oO (some a) f = f a := id rfl
theorem oO_congr {α β : Type} {o o' : Option α} {f : α → Option β} (h : o = o') : oO o f = oO o' f := by rw [h]
theorem frzs_cons (s : St) (v : Vl) (vs : List Vl) : frzs s (v :: vs) = oO (frz s v) fun y => oO (frzs y.2 vs) fun z => some (y.1 :: z.1, z.2) := by
  show (match frz s v with | some (d, s1) => _ | none => _) = _
  cases frz s v with
  | none => rfl
  | some y => obtain ⟨d, s1⟩ := y; show (match frzs s1 vs with | some (ds, s2) => _ | none => _) = oO (frzs s1 vs) _; cases frzs s1 vs <;> rfl
theorem args_nil (s : St) : args s [] = some ([], s) := id rfl
theorem args_fn (s : St) (f : Nat) (vs : List Vl) : args s (.fn f :: vs) = oO (args s vs) fun z => some (.fn f :: z.1, z.2) := by
  show (match args s vs with | some (r, s1) => _ | none => _) = _
  cases args s vs <;> rfl
theorem args_scr (s : St) (f : List Int) (vs : List Vl) : args s (.scr f :: vs) = oO (args s vs) fun z => some (.scr f :: z.1, z.2) := by
  show (match args s vs with | some (r, s1) => _ | none => _) = _
  cases args s vs <;> rfl
theorem args_dat (s : St) (d : D) (vs : List Vl) : args s (.dat d :: vs) = oO (args s vs) fun z => some (.dat d :: z.1, z.2) := by
  show (match args s vs with | some (r, s1) => _ | none => _) = _
  cases args s vs <;> rfl
theorem args_newL (s : St) (d : List D) (vs : List Vl) : args s (.newL d :: vs) = oO (args s vs) fun z => some (.dat (.list d) :: z.1, z.2) := by
  show (match args s vs with | some (r, s1) => _ | none => _) = _
  cases args s vs <;> rfl
theorem args_newD (s : St) (vs : List Vl) : args s (.newD [] :: vs) = oO (args s vs) fun z => some (.dat (.dict []) :: z.1, z.2) := by
  show (match args s vs with | some (r, s1) => _ | none => _) = _
  cases args s vs <;> rfl
theorem args_slot (s : St) (i : Nat) (vs : List Vl) : args s (.slot i :: vs) = oO (frz s (.slot i)) fun y => oO (args y.2 vs) fun z => some (.dat y.1 :: z.1, z.2) := by
  show (match frz s (.slot i) with | some (d, s1) => _ | none => _) = _
  cases frz s (.slot i) with
  | none => rfl
  | some y => obtain ⟨d, s1⟩ := y; show (match args s1 vs with | some (ds, s2) => _ | none => _) = oO (args s1 vs) _; cases args s1 vs <;> rfl
/-- may the slot be given another value -/
def setO (s : St) (i : Nat) (b : B) : Option B → Option St
  | some (.io _) => none
  | some _ => some (s.set i b)
  | none => none
theorem setB_eq (s : St) (i : Nat) (b : B) : setB s i b = setO s i b s[i]? := by
  unfold setB setO
  cases s[i]? with
  | none => rfl
  | some b => cases b <;> rfl
theorem setO_un (s : St) (i : Nat) (b : B) : setO s i b (some .un) = some (s.set i b) := id rfl
theorem setO_dat (s : St) (i : Nat) (b : B) (d : D) : setO s i b (some (.dat d)) = some (s.set i b) := id rfl
theorem setO_lst (s : St) (i : Nat) (b : B) (d : List D) : setO s i b (some (.lst d)) = some (s.set i b) := id rfl
theorem setO_fn (s : St) (i : Nat) (b : B) (d : Nat) : setO s i b (some (.fn d)) = some (s.set i b) := id rfl
theorem setV_newL (s : St) (i : Nat) (xs : List D) : setV s i (.newL xs) = setB s i (.lst xs) := id rfl
theorem setV_newD (s : St) (i : Nat) (xs : List (D × D)) : setV s i (.newD xs) = setB s i (.dct xs) := id rfl
theorem setV_fn (s : St) (i f : Nat) : setV s i (.fn f) = setB s i (.fn f) := id rfl
theorem setV_dat (s : St) (i : Nat) (d : D) : setV s i (.dat d) = setB s i (.dat d) := id rfl
theorem setV_slot (s : St) (i j : Nat) : setV s i (.slot j) = oO (frz s (.slot j)) fun y => setB y.2 i (.dat y.1) := by
  show (match frz s (.slot j) with | some (d, s1) => _ | none => _) = _
  cases frz s (.slot j) <;> rfl
theorem setDs_nil (s : St) : setDs s [] [] = some s := id rfl
theorem setDs_cons (s : St) (i : Nat) (is : List Nat) (d : D) (ds : List D) : setDs s (i :: is) (d :: ds) = oO (setB s i (.dat d)) fun s1 => setDs s1 is ds := by
  show (match setB s i (.dat d) with | some s1 => _ | none => _) = _
  cases setB s i (.dat d) <;> rfl
theorem setTg_name (s : St) (i : Nat) (d : D) : setTg s (.name i) d = setB s i (.dat d) := id rfl
theorem setTg_names (s : St) (is : List Nat) (ds : List D) : setTg s (.names is) (.tuple ds) = setDs s is ds := id rfl
theorem seqOf_list (xs : List D) : seqOf (.list xs) = some xs := id rfl
theorem seqOf_tuple (xs : List D) : seqOf (.tuple xs) = some xs := id rfl
theorem tupOf_tuple (xs : List D) : tupOf (.tuple xs) = some xs := id rfl
theorem lstOf_lst (xs : List D) : lstOf (some (.lst xs)) = some xs := id rfl
theorem zipS_list (xs ys : List D) : zipS (.list xs) (.list ys) = some (zipD xs ys) := id rfl
theorem zipS_tuple (xs ys : List D) : zipS (.tuple xs) (.tuple ys) = some (zipD xs ys) := id rfl
def ownB : Option B → Bool
  | some (.lst _) => true
  | some (.io _) => true
  | _ => false
theorem ownL_eq (s : St) (i : Nat) : ownL s i = ownB s[i]? := by
  unfold ownL ownB
  cases s[i]? with
  | none => rfl
  | some b => cases b <;> rfl
theorem ownB_lst (xs : List D) : ownB (some (.lst xs)) = true := id rfl
theorem ownB_io (xs : List D) : ownB (some (.io xs)) = true := id rfl
def oioB (xs : List D) : Option B → B
  | some (.io _) => .io xs
  | _ => .lst xs
theorem ofOutIo_ok (s : St) (i : Nat) (v : Vl) (xs : List D) : ofOutIo s i (.ok v xs) = .ok v (s.set i (oioB xs s[i]?)) := by
  show R.ok v (s.set i _) = _
  congr 2
theorem oioB_io (xs ys : List D) : oioB xs (some (.io ys)) = .io xs := id rfl
theorem oioB_lst (xs ys : List D) : oioB xs (some (.lst ys)) = .lst xs := id rfl
theorem retV_dat (s : St) (d : D) : retV s (.dat d) = some (.dat d) := id rfl
theorem retV_newL (s : St) (d : List D) : retV s (.newL d) = some (.newL d) := id rfl
def rtB : Option B → Option Vl
  | some (.lst xs) => some (.newL xs)
  | some (.dct kvs) => some (.newD kvs)
  | _ => none
theorem rtB_lst (xs : List D) : rtB (some (.lst xs)) = some (.newL xs) := id rfl
theorem retV_slot (s : St) (i : Nat) : retV s (.slot i) = rtB s[i]? := by
  show (match s[i]? with
    | some (.lst xs) => some (Vl.newL xs)
    | some (.dct kvs) => some (Vl.newD kvs)
    | _ => none) = _
  cases s[i]? with
  | none => rfl
  | some b => cases b <;> rfl
theorem endOf_ret {b : Bool} {s : St} {v v' : Vl} (h1 : ioS s = b) (h2 : retV s v = some v') : endOf b (.ok (.ret v) s) = .ok v' (ioOf s) := by
  show (match ioS s == b, retV s v with
    | true, some v => Out.ok v (ioOf s)
    | _, _ => .bad) = _
  rw [h1, h2]
  cases b <;> rfl
theorem endOf_next {b : Bool} {s : St} (h1 : ioS s = b) : endOf b (.ok .next s) = .ok (.dat .none) (ioOf s) := by
  show (match ioS s == b with
    | true => Out.ok (.dat .none) (ioOf s)
    | false => .bad) = _
  rw [h1]
  cases b <;> rfl
theorem endOf_exc {b : Bool} {s : St} {c : Nat} (h1 : ioS s = b) : endOf b (.exc c s) = .exc c (ioOf s) := by
  show (match ioS s == b with
    | true => Out.exc c (ioOf s)
    | false => .bad) = _
  rw [h1]
  cases b <;> rfl
theorem spec_of {P : Nat → Option Fd} {L f : Nat} {as : List Ar} {r : Out} {np ns : Nat} {c : Ss} (hP : P f = some ⟨np, ns, c⟩) (hl : as.length = np) (h : ∀ K, L ≤ K → endOf (isIo as) (dSs (dFun P K) c (as.map arB ++ List.replicate (ns - np) .un)) = r) : Spec P (L + 1) f as r := by
  intro K hK
  obtain ⟨K', rfl⟩ : ∃ K', K = K' + 1 := ⟨K - 1, by omega⟩
  show (match P f with
    | some d => if as.length = d.np then endOf (isIo as) (dSs (dFun P K') d.body (as.map arB ++ List.replicate (d.ns - d.np) .un)) else .bad
    | none => .bad) = r
  rw [hP]
  exact (if_pos hl).trans (h K' (by omega))
theorem loopF_ex {turn : D → St → R Fl} (Q : Nat → St → Prop) : ∀ (xs : List D) (s : St) (k : Nat), Q k s → (∀ i x s, xs[i]? = some x → Q (k + i) s → ∃ s', turn x s = .ok .next s' ∧ Q (k + i + 1) s') → ∃ s', loopF turn xs s = .ok .next s' ∧ Q (k + xs.length) s'
  | [], s, k, h0, _ => ⟨s, rfl, h0⟩
  | x :: xs, s, k, h0, hs => by
    obtain ⟨s1, e1, q1⟩ := hs 0 x s rfl h0
    obtain ⟨s2, e2, q2⟩ := loopF_ex Q xs s1 (k + 1) q1 fun i y s hy hq => by
      have := hs (i + 1) y s (by simpa using hy) (by rw [show k + (i + 1) = k + 1 + i by omega]; exact hq)
      rwa [show k + (i + 1) + 1 = k + 1 + i + 1 by omega] at this
    refine ⟨s2, ?_, by rw [List.length_cons, show k + (xs.length + 1) = k + 1 + xs.length by omega]; exact q2⟩
    show (match turn x s with
      | .ok .next s1 => loopF turn xs s1
      | r => r) = _
    rw [e1]
    exact e2
theorem loopC_map {turn : D → St → R (Option D)} {f : D → D} {s : St} : ∀ (xs acc : List D), (∀ x ∈ xs, turn x s = .ok (some (f x)) s) → loopC turn xs acc s = .ok (acc ++ xs.map f) s
  | [], acc, _ => by unfold loopC; rw [List.map_nil, List.append_nil]
  | x :: xs, acc, h => by
    unfold loopC
    rw [h x List.mem_cons_self]
    show loopC turn xs (acc ++ [f x]) s = _
    rw [loopC_map xs _ fun y hy => h y (List.mem_cons_of_mem _ hy), List.map_cons, List.append_assoc]
    rfl
/-! ### operators by data -/
def gdO {β : Type} (b : Bool) (m : Option β) : Option β := match b with
  | true => m
  | false => none
theorem gdO_true {β : Type} (m : Option β) : gdO true m = m := id rfl
theorem gdO_congr {β : Type} {b b' : Bool} {m : Option β} (h : b = b') : gdO b m = gdO b' m := by rw [h]
theorem gdO_if {β : Type} (b : Bool) (m : Option β) : (if b = true then m else none) = gdO b m := by cases b <;> rfl
theorem v_add (i j : Int) : evOp2 .add (.int i) (.int j) = some (.dat (.int (i + j))) := id rfl
theorem v_addL (xs ys : List D) : evOp2 .add (.list xs) (.list ys) = gdO (lenOk (xs.length + ys.length)) (some (.newL (xs ++ ys))) := gdO_if _ _
theorem v_addT (xs ys : List D) : evOp2 .add (.tuple xs) (.tuple ys) = gdO (lenOk (xs.length + ys.length)) (some (.dat (.tuple (xs ++ ys)))) := gdO_if _ _
theorem v_sub (i j : Int) : evOp2 .sub (.int i) (.int j) = some (.dat (.int (i - j))) := id rfl
theorem v_mul (i j : Int) : evOp2 .mul (.int i) (.int j) = gdO (mulOk i j) (some (.dat (.int (i * j)))) := gdO_if _ _
theorem v_mulL (xs : List D) (k : Int) : evOp2 .mul (.list xs) (.int k) = gdO (decide (k < 1000000) && decide (-1000000 < k) && lenOk (xs.length * k.toNat)) (some (.newL (List.replicate k.toNat xs).flatten)) := gdO_if _ _
theorem v_mulT (xs : List D) (k : Int) : evOp2 .mul (.tuple xs) (.int k) = gdO (decide (k ≤ 1000) && decide (2 ≤ k) && decide (xs.length ≤ 1000) && !xs.isEmpty) (some (.dat (.tuple (List.replicate k.toNat xs).flatten))) := gdO_if _ _
theorem v_fdiv (i j : Int) : evOp2 .fdiv (.int i) (.int j) = gdO (divOk j) (some (.dat (.int (i / j)))) := gdO_if _ _
theorem v_mod (i j : Int) : evOp2 .mod (.int i) (.int j) = gdO (decide (0 < j)) (some (.dat (.int (i % j)))) := gdO_if _ _
theorem v_pow (i j : Int) : evOp2 .pow (.int i) (.int j) = gdO (powOk i j) (some (.dat (.int (i ^ j.toNat)))) := gdO_if _ _
theorem v_lt (i j : Int) : evOp2 .lt (.int i) (.int j) = some (.dat (.bool (decide (i < j)))) := id rfl
theorem v_le (i j : Int) : evOp2 .le (.int i) (.int j) = some (.dat (.bool (decide (i ≤ j)))) := id rfl
theorem v_gt (i j : Int) : evOp2 .gt (.int i) (.int j) = some (.dat (.bool (decide (j < i)))) := id rfl
theorem v_ge (i j : Int) : evOp2 .ge (.int i) (.int j) = some (.dat (.bool (decide (j ≤ i)))) := id rfl
theorem v_eq (a b : D) : evOp2 .eq a b = gdO (fit 8 a && fit 8 b) (some (.dat (.bool (PyData.eqv a b)))) := by
  show (if fit 8 a && fit 8 b then ofB (xor false (PyData.eqv a b)) else none) = _
  rw [Bool.false_xor]; exact gdO_if _ _
theorem v_ne (a b : D) : evOp2 .ne a b = gdO (fit 8 a && fit 8 b) (some (.dat (.bool (!PyData.eqv a b)))) := by
  show (if fit 8 a && fit 8 b then ofB (xor true (PyData.eqv a b)) else none) = _
  rw [Bool.true_xor]; exact gdO_if _ _
theorem v_ixL (xs : List D) (i : Int) : evOp2 .ix (.list xs) (.int i) = (L2.atI xs i).map .dat := id rfl
theorem v_ixT (xs : List D) (i : Int) : evOp2 .ix (.tuple xs) (.int i) = (L2.atI xs i).map .dat := id rfl
theorem v_lenL (xs : List D) : evFn1 .len (.list xs) = some (.dat (.int xs.length)) := id rfl
theorem v_lenT (xs : List D) : evFn1 .len (.tuple xs) = some (.dat (.int xs.length)) := id rfl
theorem v_tupL (xs : List D) : evFn1 .tuple (.list xs) = some (.dat (.tuple xs)) := id rfl
theorem v_tupT (xs : List D) : evFn1 .tuple (.tuple xs) = some (.dat (.tuple xs)) := id rfl
theorem v_lstL (xs : List D) : evFn1 .list (.list xs) = some (.newL xs) := id rfl
theorem v_lstT (xs : List D) : evFn1 .list (.tuple xs) = some (.newL xs) := id rfl
theorem intsOf_map (ns : List Int) : intsOf (ns.map PyData.int) = some ns := by
  induction ns with
  | nil => rfl
  | cons n ns ih => show (match intsOf (ns.map PyData.int) with | some l => some (n :: l) | none => none) = _; rw [ih]
theorem blsOf_map (ns : List Bool) : blsOf (ns.map PyData.bool) = some ns := by
  induction ns with
  | nil => rfl
  | cons n ns ih => show (match blsOf (ns.map PyData.bool) with | some l => some (n :: l) | none => none) = _; rw [ih]
theorem v_sum (ns : List Int) : evFn1 .sum (.list (ns.map .int)) = some (.dat (.int ns.sum)) := by
  show (match intsOf (ns.map PyData.int) with | some ns => _ | none => _) = _
  rw [intsOf_map]
theorem v_sumT (ns : List Int) : evFn1 .sum (.tuple (ns.map .int)) = some (.dat (.int ns.sum)) := by
  show (match intsOf (ns.map PyData.int) with | some ns => _ | none => _) = _
  rw [intsOf_map]
theorem v_all (ns : List Bool) : evFn1 .all (.list (ns.map .bool)) = some (.dat (.bool (ns.all id))) := by
  show (match blsOf (ns.map PyData.bool) with | some ns => _ | none => _) = _
  rw [blsOf_map]; rfl
theorem v_any (ns : List Bool) : evFn1 .any (.list (ns.map .bool)) = some (.dat (.bool (ns.any id))) := by
  show (match blsOf (ns.map PyData.bool) with | some ns => _ | none => _) = _
  rw [blsOf_map]; rfl
theorem v_neg (i : Int) : evFn1 .neg (.int i) = some (.dat (.int (-i))) := id rfl
theorem v_isN (d : D) : evFn1 .isN d = some (.dat (.bool (isNone d))) := id rfl
theorem v_notN (d : D) : evFn1 .notN d = some (.dat (.bool (!isNone d))) := id rfl
theorem v_isT (b : Bool) : evFn1 .isT (.bool b) = some (.dat (.bool b)) := id rfl
theorem v_notT (b : Bool) : evFn1 .notT (.bool b) = some (.dat (.bool (!b))) := id rfl
theorem v_max (i j : Int) : evFn2 .max (.int i) (.int j) = some (.dat (.int (if j > i then j else i))) := id rfl
theorem v_min (i j : Int) : evFn2 .min (.int i) (.int j) = some (.dat (.int (if j < i then j else i))) := id rfl
theorem map_some' {α β : Type} (a : α) (f : α → β) : Option.map f (some a) = some (f a) := id rfl
theorem plain_one (t : Ty) : [t].all plainTy = plainTy t := by simp
theorem isTys_one (d : D) (t : Ty) : isTys d [t] = isTy d t := by simp [isTys]
theorem atI_nat {α : Type} (xs : List α) (i : Nat) : L2.atI xs (i : Int) = xs[i]? := by
  unfold L2.atI L2.ixN
  by_cases h : i < xs.length
  · rw [if_pos (by omega), if_pos (by omega)]; rfl
  · rw [if_pos (by omega), if_neg (by omega)]
    rw [List.getElem?_eq_none (by omega)]; rfl
theorem mulOk_of2 {i j : Int} (a b : Nat) (hi : i.natAbs < 2 ^ a) (hj : j.natAbs < 2 ^ b) (h : a + b < 1000000) : mulOk i j = true := by
  unfold mulOk
  have l : ∀ (n a : Nat), n < 2 ^ a → n.log2 ≤ a := fun n a h => by
    by_cases z : n = 0
    · subst z; simp
    · exact Nat.le_of_lt ((Nat.log2_lt z).mpr h)
  have := l _ _ hi
  have := l _ _ hj
  exact decide_eq_true (by omega)
theorem divOk_of {j : Int} (h : 0 < j) (h2 : j < 2 ^ 60) : divOk j = true := by
  unfold divOk
  rw [decide_eq_true h, Bool.true_and]
  have : j.natAbs < 2 ^ 60 := by omega
  have := (Nat.log2_lt (by omega : j.natAbs ≠ 0)).mpr this
  exact decide_eq_true (by omega)
theorem rngOk_of' {i : Int} (h1 : -1000000 ≤ i) (h2 : i ≤ 1000000) : rngOk i = true := by
  unfold rngOk
  rw [decide_eq_true h1, decide_eq_true h2]; rfl
theorem lenOk_of' {n : Nat} (h : n ≤ 1000000) : lenOk n = true := decide_eq_true h
/-! ### ends -/
def gdU (b : Bool) (m : Out) : Out := match b with
  | true => m
  | false => .bad
theorem gdU_true (m : Out) : gdU true m = m := id rfl
def retO : Option Vl → List D → Out
  | some v, xs => .ok v xs
  | none, _ => .bad
theorem retO_some (v : Vl) (xs : List D) : retO (some v) xs = .ok v xs := id rfl
theorem end_ret (b : Bool) (v : Vl) (s : St) : endOf b (.ok (.ret v) s) = gdU (ioS s == b) (retO (retV s v) (ioOf s)) := by
  show (match ioS s == b, retV s v with
    | true, some v => Out.ok v (ioOf s)
    | _, _ => .bad) = _
  cases ioS s == b <;> cases retV s v <;> rfl
theorem end_next (b : Bool) (s : St) : endOf b (.ok .next s) = gdU (ioS s == b) (.ok (.dat .none) (ioOf s)) := by
  show (match ioS s == b with
    | true => Out.ok (.dat .none) (ioOf s)
    | false => .bad) = _
  cases ioS s == b <;> rfl
theorem end_exc (b : Bool) (c : Nat) (s : St) : endOf b (.exc c s) = gdU (ioS s == b) (.exc c (ioOf s)) := by
  show (match ioS s == b with
    | true => Out.exc c (ioOf s)
    | false => .bad) = _
  cases ioS s == b <;> rfl
theorem ioS_io (xs : List D) (r : St) : ioS (.io xs :: r) = true := id rfl
theorem ioS_dat (d : D) (r : St) : ioS (.dat d :: r) = false := id rfl
theorem ioS_fn (d : Nat) (r : St) : ioS (.fn d :: r) = false := id rfl
theorem ioS_exc (d : Nat) (r : St) : ioS (.exc d :: r) = false := id rfl
theorem ioS_scr (d : List Int) (r : St) : ioS (.scr d :: r) = false := id rfl
theorem ioOf_io (xs : List D) (r : St) : ioOf (.io xs :: r) = xs := id rfl
theorem ioOf_dat (d : D) (r : St) : ioOf (.dat d :: r) = [] := id rfl
theorem ioOf_fn (d : Nat) (r : St) : ioOf (.fn d :: r) = [] := id rfl
theorem ioOf_exc (d : Nat) (r : St) : ioOf (.exc d :: r) = [] := id rfl
theorem ioOf_scr (d : List Int) (r : St) : ioOf (.scr d :: r) = [] := id rfl
theorem isIo_io (xs : List D) (r : List Ar) : isIo (.io xs :: r) = true := id rfl
theorem isIo_dat (d : D) (r : List Ar) : isIo (.dat d :: r) = false := id rfl
theorem isIo_fn (d : Nat) (r : List Ar) : isIo (.fn d :: r) = false := id rfl
theorem isIo_exc (d : Nat) (r : List Ar) : isIo (.exc d :: r) = false := id rfl
theorem isIo_scr (d : List Int) (r : List Ar) : isIo (.scr d :: r) = false := id rfl
theorem loop_eq {turn : D → St → R Fl} {xs : List D} {s : St} {L : R Fl} (hL : loopF turn xs s = L) (Q : Nat → St → Prop) (h0 : Q 0 s) (hs : ∀ i x s, xs[i]? = some x → Q i s → ∃ s', turn x s = .ok .next s' ∧ Q (i + 1) s') : ∃ s', L = .ok .next s' ∧ Q xs.length s' := by
  obtain ⟨s', e, q⟩ := loopF_ex Q xs s 0 h0 fun i x s hx hq => by
    rw [Nat.zero_add] at hq ⊢
    exact hs i x s hx hq
  rw [Nat.zero_add] at q
  exact ⟨s', hL.symm.trans e, q⟩
theorem comp_eq {turn : D → St → R (Option D)} {xs : List D} {s : St} {L : R (List D)} (hL : loopC turn xs [] s = L) (f : D → D) (h : ∀ x ∈ xs, turn x s = .ok (some (f x)) s) : L = .ok (xs.map f) s := by
  rw [← hL, loopC_map (f := f) xs [] h, List.nil_append]
/-- a slot that a loop gives values -/
def loose : B → Prop
  | .un => True
  | .dat _ => True
  | _ => False
theorem setO_loose {s : St} {i : Nat} {b b' : B} (h : loose b') : setO s i b (some b') = some (s.set i b) := by
  cases b' <;> first | rfl | exact h.elim
def ownF : Option B → Bool
  | some b => !owned b
  | none => false
theorem ownOk_nil (s : St) : ownOk s [] = true := id rfl
theorem ownOk_cons (s : St) (i : Nat) (is : List Nat) : ownOk s (i :: is) = (ownF s[i]? && ownOk s is) := by
  show ((match s[i]? with
    | some b => !owned b
    | none => false) && _) = _
  cases s[i]? <;> rfl
theorem ownF_loose {b : B} (h : loose b) : ownF (some b) = true := by
  cases b <;> first | rfl | exact h.elim
theorem ownF_un : ownF (some .un) = true := id rfl
theorem ownF_dat (d : D) : ownF (some (.dat d)) = true := id rfl
theorem wipeB_nil (s : St) : wipeB s [] = s := id rfl
theorem wipeB_cons (s : St) (i : Nat) (is : List Nat) : wipeB s (i :: is) = wipeB (s.set i .un) is := id rfl
theorem backB_nil (s0 s : St) : backB s0 s [] = s := id rfl
theorem backB_cons (s0 s : St) (i : Nat) (is : List Nat) : backB s0 s (i :: is) = backB s0 (s.set i (s0[i]?.getD .un)) is := id rfl
theorem getD_some' {α : Type} (a b : α) : (some a).getD b = a := id rfl
theorem and_tt : (true && true) = true := id rfl
/-- a list or a tuple -/
def sq (b : Bool) (xs : List D) : D := match b with
  | true => .tuple xs
  | false => .list xs
theorem v_lenS (b : Bool) (xs : List D) : evFn1 .len (sq b xs) = some (.dat (.int xs.length)) := by cases b <;> rfl
theorem v_ixS (b : Bool) (xs : List D) (i : Int) : evOp2 .ix (sq b xs) (.int i) = (L2.atI xs i).map .dat := by cases b <;> rfl
theorem seqOf_sq (b : Bool) (xs : List D) : seqOf (sq b xs) = some xs := by cases b <;> rfl
theorem sq_true (xs : List D) : sq true xs = .tuple xs := rfl
theorem sq_false (xs : List D) : sq false xs = .list xs := rfl
/-! ### more of the code -/
section
variable {Φ : Nat → List Ar → Out} {s : St}
theorem e_slcB (a lo hi : E) : dE Φ (.slcB a lo hi) s = (dE Φ a s).bind fun v s1 => (dE Φ lo s1).bind fun w s2 => (intOf w s2).bind fun i s3 => (dE Φ hi s3).bind fun z s4 => (intOf z s4).bind fun j s5 => cutV v (some i) (some j) s5 := id rfl
theorem e_inRng (neg : Bool) (a lo hi : E) : dE Φ (.inRng neg a lo hi) s = (dE Φ a s).bind fun v s1 => (intOf v s1).bind fun i s2 => (dE Φ lo s2).bind fun w s3 => (intOf w s3).bind fun l s4 => (dE Φ hi s4).bind fun z s5 => (intOf z s5).bind fun h s6 => .ok (.dat (.bool (xor neg (decide (l ≤ i ∧ i < h))))) s6 := id rfl
/-- the def that a name holds -/
def fnB : Option B → Option Nat
  | some (.fn f) => some f
  | _ => none
theorem fnB_fn (f : Nat) : fnB (some (.fn f)) = some f := id rfl
theorem e_callV (i : Nat) (es : Es) : dE Φ (.callV i es) s = oR (fnB s[i]?) fun f => (dEs Φ es s).bind fun vs s1 => oR (args s1 vs) fun y => ofOut y.2 (Φ f y.1) := by
  show (match s[i]? with
    | some (.fn f) => (dEs Φ es s).bind fun vs s1 => callF Φ f vs s1
    | _ => .bad) = _
  cases s[i]? with
  | none => rfl
  | some b =>
    cases b with
    | fn f =>
      show (dEs Φ es s).bind _ = (dEs Φ es s).bind _
      congr 1; funext vs s1
      unfold callF
      cases args s1 vs <;> rfl
    | _ => rfl
theorem e_callS (fs : List Nat) (e : E) (es : Es) : dE Φ (.callS fs e es) s = (dE Φ e s).bind fun v s1 => (intOf v s1).bind fun i s2 => oR (L2.atI fs i) fun f => (dEs Φ es s2).bind fun vs s3 => oR (args s3 vs) fun y => ofOut y.2 (Φ f y.1) := by
  show (dE Φ e s).bind _ = _
  congr 1; funext v s1
  congr 1; funext i s2
  cases L2.atI fs i with
  | none => rfl
  | some f =>
    show (dEs Φ es s2).bind _ = (dEs Φ es s2).bind _
    congr 1; funext vs s3
    show callF Φ f vs s3 = _
    unfold callF
    cases args s3 vs <;> rfl
theorem i_wip (is : List Nat) (it : It) : dIt Φ (.wip is it) s = (dIt Φ it s).bind fun xs s1 => .ok xs (wipeB s1 is) := id rfl
theorem s_wipe (is : List Nat) : dS Φ (.wipe is) s = .ok .next (wipeB s is) := id rfl
/-- behind try -/
def tryR (j : Nat) (m : Nat → Out) : R Fl → R Fl
  | .ok (.ret v) s1 => .ok (.ret v) s1
  | .exc c s1 => match decide (c < 17 ∧ j < s1.length), m c with
    | true, .ok v _ => .ok (.ret v) s1
    | _, _ => .bad
  | _ => .bad
theorem s_try (b : Ss) (j f : Nat) : dS Φ (.tryRet b j f) s = tryR j (fun c => Φ f [.exc c]) (dSs Φ b s) := by
  show (match dSs Φ b s with
    | .ok (.ret v) s1 => R.ok (Fl.ret v) s1
    | .exc c s1 => match decide (c < 17 ∧ j < s1.length), Φ f [.exc c] with
      | true, .ok v _ => R.ok (Fl.ret v) s1
      | _, _ => R.bad
    | _ => R.bad) = _
  cases dSs Φ b s with
  | ok fl s1 => cases fl <;> rfl
  | exc c s1 => rfl
  | bad => rfl
theorem try_ret (j : Nat) (m : Nat → Out) (v : Vl) (s : St) : tryR j m (.ok (.ret v) s) = .ok (.ret v) s := id rfl
def outR (s : St) : Out → R Fl
  | .ok v _ => .ok (.ret v) s
  | _ => .bad
theorem outR_ok (s : St) (v : Vl) (xs : List D) : outR s (.ok v xs) = .ok (.ret v) s := id rfl
theorem try_exc (j : Nat) (m : Nat → Out) (c : Nat) (s : St) : tryR j m (.exc c s) = gd (decide (c < 17) && decide (j < s.length)) (outR s (m c)) := by
  show (match decide (c < 17 ∧ j < s.length), m c with
      | true, .ok v _ => R.ok (Fl.ret v) s
      | _, _ => R.bad) = _
  have e : decide (c < 17 ∧ j < s.length) = (decide (c < 17) && decide (j < s.length)) := by
    by_cases h1 : c < 17 <;> by_cases h2 : j < s.length <;> simp [h1, h2]
  rw [e]
  cases (decide (c < 17) && decide (j < s.length)) <;> cases m c <;> rfl
theorem s_while (c : E) (b : Ss) : dS Φ (.while_ c b) s = loopW (fun s => (dE Φ c s).bind tru) (fun s => dSs Φ b s) 1000 s := id rfl
end
theorem v_repr (d : D) : evFn1 .repr d = gdO (showOk d) (some (.dat (.str d.shown))) := gdO_if _ _
theorem v_revL (xs : List D) : evFn1 .rev (.list xs) = some (.newL xs.reverse) := id rfl
theorem v_revT (xs : List D) : evFn1 .rev (.tuple xs) = some (.dat (.tuple xs.reverse)) := id rfl
theorem v_intB (b : Bool) : evFn1 .int (.bool b) = some (.dat (.int (if b then 1 else 0))) := id rfl
theorem v_isF (b : Bool) : evFn1 .isF (.bool b) = some (.dat (.bool (!b))) := id rfl
theorem v_notF (b : Bool) : evFn1 .notF (.bool b) = some (.dat (.bool b)) := id rfl
theorem v_nil (xs : List D) : evFn1 .nil_ (.list xs) = some (.dat (.bool xs.isEmpty)) := id rfl
theorem eqv_str (x y : Str) : PyData.eqv (.str x) (.str y) = decide (x = y) := by
  rw [PyData.eqv]
  by_cases h : x = y
  · subst h; simp
  · rw [decide_eq_false h]; exact beq_eq_false_iff_ne.mpr h
theorem eqv_int (x y : Int) : PyData.eqv (.int x) (.int y) = decide (x = y) := by
  rw [PyData.eqv]
  by_cases h : x = y
  · subst h; simp
  · rw [decide_eq_false h]; exact beq_eq_false_iff_ne.mpr h
theorem fit_str (n : Nat) (x : Str) : fit n (.str x) = true := by cases n <;> rfl
theorem fit_int (n : Nat) (x : Int) : fit n (.int x) = true := by cases n <;> rfl
theorem fit_none (n : Nat) : fit n .none = true := by cases n <;> rfl
theorem cutT (xs : List D) (lo hi : Option Int) (s : St) : cutV (.dat (.tuple xs)) lo hi s = .ok (.dat (.tuple (cut xs lo hi))) s := id rfl
theorem cutL (xs : List D) (lo hi : Option Int) (s : St) : cutV (.dat (.list xs)) lo hi s = .ok (.newL (cut xs lo hi)) s := id rfl
theorem cutN (xs : List D) (lo hi : Option Int) (s : St) : cutV (.newL xs) lo hi s = .ok (.newL (cut xs lo hi)) s := id rfl
/-- the cut of what a slot holds -/
def cutD (s : St) (lo hi : Option Int) : Option D → R Vl
  | some (.list xs) => .ok (.newL (cut xs lo hi)) s
  | some (.tuple xs) => .ok (.dat (.tuple (cut xs lo hi))) s
  | _ => .bad
theorem cutS (i : Nat) (lo hi : Option Int) (s : St) : cutV (.slot i) lo hi s = cutD s lo hi (peek s (.slot i)) := by
  unfold cutV cutD
  cases peek s (.slot i) with
  | none => rfl
  | some d => cases d <;> rfl
theorem cutD_list (s : St) (lo hi : Option Int) (xs : List D) : cutD s lo hi (some (.list xs)) = .ok (.newL (cut xs lo hi)) s := id rfl
/-- two operands, by what they hold -/
theorem fn2_any (p : Fn2) (v w : Vl) (s : St) : fn2 p v w s = (match peek s v, peek s w with
  | some d, some e => ofO s (evFn2 p d e)
  | _, _ => .bad) := id rfl
/-- a fold over a for loop -/
theorem loop_fold {α : Type} {turn : D → St → R Fl} (S : α → St) (f : α → D → α) (I : Nat → α → Prop) : ∀ (xs : List D) (k : Nat) (a : α), I k a → (∀ i x a, xs[i]? = some x → I (k + i) a → turn x (S a) = .ok .next (S (f a x)) ∧ I (k + i + 1) (f a x)) → loopF turn xs (S a) = .ok .next (S (xs.foldl f a)) ∧ I (k + xs.length) (xs.foldl f a)
  | [], k, a, h, _ => ⟨rfl, h⟩
  | x :: xs, k, a, h, hs => by
    obtain ⟨e1, i1⟩ := hs 0 x a rfl h
    obtain ⟨e2, i2⟩ := loop_fold S f I xs (k + 1) (f a x) i1 fun i y b hy hb => by
      have := hs (i + 1) y b (by simpa using hy) (by rw [show k + (i + 1) = k + 1 + i by omega]; exact hb)
      rwa [show k + (i + 1) + 1 = k + 1 + i + 1 by omega] at this
    refine ⟨?_, by rw [List.length_cons, show k + (xs.length + 1) = k + 1 + xs.length by omega]; exact i2⟩
    show (match turn x (S a) with
      | .ok .next s1 => loopF turn xs s1
      | r => r) = _
    rw [e1]
    exact e2
/-- a loop whose turns leave the state as it is -/
theorem loop_same {turn : D → St → R Fl} {s : St} : ∀ (xs : List D), (∀ x ∈ xs, turn x s = .ok .next s) → loopF turn xs s = .ok .next s
  | [], _ => rfl
  | x :: xs, h => by
    show (match turn x s with
      | .ok .next s1 => loopF turn xs s1
      | r => r) = _
    rw [h x List.mem_cons_self]
    exact loop_same xs fun y hy => h y (List.mem_cons_of_mem _ hy)
/-- a while loop by its turns -/
theorem while_step {test : St → R Bool} {turn : St → R Fl} {n : Nat} {s s1 s2 : St} (h1 : test s = .ok true s1) (h2 : turn s1 = .ok .next s2) : loopW test turn (n + 1) s = loopW test turn n s2 := by
  show (test s).bind _ = _
  rw [h1]
  show (match turn s1 with
    | .ok .next s2 => loopW test turn n s2
    | r => r) = _
  rw [h2]
theorem while_end {test : St → R Bool} {turn : St → R Fl} {n : Nat} {s s1 : St} (h1 : test s = .ok false s1) : loopW test turn (n + 1) s = .ok .next s1 := by
  show (test s).bind _ = _
  rw [h1]
  rfl
/-- a while loop by a measure -/
theorem while_to {test : St → R Bool} {turn : St → R Fl} (I : Nat → St → Prop) (F : St → Prop) (step : ∀ m s, I m s → (test s = .ok false s ∧ F s) ∨ ∃ m' s', m' < m ∧ I m' s' ∧ test s = .ok true s ∧ turn s = .ok .next s') : ∀ (m n : Nat) (s : St), I m s → m < n → ∃ s', loopW test turn n s = .ok .next s' ∧ F s' := by
  intro m
  induction m using Nat.strongRecOn with
  | ind m ih =>
    intro n s hI hn
    obtain ⟨n, rfl⟩ : ∃ k, n = k + 1 := ⟨n - 1, by omega⟩
    rcases step m s hI with ⟨h1, hF⟩ | ⟨m', s', hm, hI', h1, h2⟩
    · exact ⟨s, while_end h1, hF⟩
    · obtain ⟨s2, e, hF⟩ := ih m' hm n s' hI' (by omega)
      exact ⟨s2, (while_step h1 h2).trans e, hF⟩
theorem eqv_bool (a b : Bool) : PyData.eqv (.bool a) (.bool b) = decide (a = b) := by
  rw [PyData.eqv]
  cases a <;> cases b <;> rfl
theorem fit_bool (n : Nat) (b : Bool) : fit n (.bool b) = true := by cases n <;> rfl
theorem cutV_tup (xs : List D) (lo hi : Option Int) (s : St) : cutV (.dat (.tuple xs)) lo hi s = .ok (.dat (.tuple (cut xs lo hi))) s := id rfl
theorem cut_take (xs : List D) (k : Nat) : cut xs none (some (k : Nat)) = xs.take k := by
  unfold cut
  rw [HT.sIx_none, HT.sIx_nat, List.drop_zero, Nat.sub_zero]
  by_cases h : k ≤ xs.length
  · rw [Nat.min_eq_left h]
  · rw [Nat.min_eq_right (by omega), List.take_length, List.take_of_length_le (by omega)]
theorem cut_drop (xs : List D) (k : Nat) : cut xs (some (k : Nat)) none = xs.drop k := by
  unfold cut
  rw [HT.sIx_none, HT.sIx_nat]
  by_cases h : k ≤ xs.length
  · rw [Nat.min_eq_left h, List.take_of_length_le (by simp)]
  · rw [Nat.min_eq_right (by omega), Nat.sub_self, List.take_zero, List.drop_of_length_le (by omega)]
theorem enum_get : ∀ {xs : List D} {k i : Nat} {d : D}, (enumD k xs)[i]? = some d → ∃ x, xs[i]? = some x ∧ d = .tuple [.int ((k + i : Nat)), x]
  | [], _, _, _, h => by unfold enumD at h; simp at h
  | x :: xs, k, 0, d, h => by unfold enumD at h; simp at h; subst h; exact ⟨x, rfl, rfl⟩
  | x :: xs, k, i + 1, d, h => by
    unfold enumD at h
    rw [List.getElem?_cons_succ] at h
    obtain ⟨y, h1, h2⟩ := enum_get h
    exact ⟨y, by rw [List.getElem?_cons_succ]; exact h1, by rw [h2]; congr 3; omega⟩
theorem enum_len : ∀ (xs : List D) (k : Nat), (enumD k xs).length = xs.length
  | [], _ => rfl
  | _ :: xs, k => by unfold enumD; rw [List.length_cons, List.length_cons, enum_len xs]
theorem loopC_ex {turn : D → St → R (Option D)} (Q : Nat → List D → St → Prop) : ∀ (xs acc : List D) (s : St) (k : Nat), Q k acc s → (∀ i x acc s, xs[i]? = some x → Q (k + i) acc s → ∃ d s', turn x s = .ok (some d) s' ∧ Q (k + i + 1) (acc ++ [d]) s') → ∃ ds s', loopC turn xs acc s = .ok ds s' ∧ Q (k + xs.length) ds s'
  | [], acc, s, k, h0, _ => ⟨acc, s, rfl, h0⟩
  | x :: xs, acc, s, k, h0, hs => by
    obtain ⟨d, s1, e1, q1⟩ := hs 0 x acc s rfl h0
    obtain ⟨ds, s2, e2, q2⟩ := loopC_ex Q xs (acc ++ [d]) s1 (k + 1) q1 fun i y acc s hy hq => by
      have := hs (i + 1) y acc s (by simpa using hy) (by rw [show k + (i + 1) = k + 1 + i by omega]; exact hq)
      rwa [show k + (i + 1) + 1 = k + 1 + i + 1 by omega] at this
    refine ⟨ds, s2, ?_, by rw [List.length_cons, show k + (xs.length + 1) = k + 1 + xs.length by omega]; exact q2⟩
    unfold loopC
    rw [e1]
    exact e2
theorem compS_eq {turn : D → St → R (Option D)} {xs : List D} {s : St} {L : R (List D)} (hL : loopC turn xs [] s = L) (Q : Nat → List D → St → Prop) (h0 : Q 0 [] s) (hs : ∀ i x acc s, xs[i]? = some x → Q i acc s → ∃ d s', turn x s = .ok (some d) s' ∧ Q (i + 1) (acc ++ [d]) s') : ∃ ds s', L = .ok ds s' ∧ Q xs.length ds s' := by
  obtain ⟨ds, s', e, q⟩ := loopC_ex Q xs [] s 0 h0 fun i x acc s hx hq => by
    rw [Nat.zero_add] at hq ⊢
    exact hs i x acc s hx hq
  rw [Nat.zero_add] at q
  exact ⟨ds, s', hL.symm.trans e, q⟩
theorem fun_un {P : Nat → Option Fd} {K f : Nat} {as : List Ar} {np ns : Nat} {c : Ss} (hP : P f = some ⟨np, ns, c⟩) (hl : as.length = np) : dFun P (K + 1) f as = endOf (isIo as) (dSs (dFun P K) c (as.map arB ++ List.replicate (ns - np) B.un)) := by
  show (match P f with
    | some d => if as.length = d.np then endOf (isIo as) (dSs (dFun P K) d.body (as.map arB ++ List.replicate (d.ns - d.np) B.un)) else .bad
    | none => .bad) = _
  rw [hP]
  exact if_pos hl
theorem divOk_of3 {j : Int} {q : Nat} (h0 : 0 < j) (h : j.natAbs < 2 ^ q) (hq : q ≤ 9000) : divOk j = true := by
  unfold divOk
  rw [decide_eq_true h0, Bool.true_and]
  refine decide_eq_true ?_
  have : j.natAbs.log2 < q := (Nat.log2_lt (by omega)).mpr h
  omega
end Fc

/-! the program's rows -/
namespace Fc
open PySem
/-- ways to choose -/
def chs : Nat → Nat → Nat
  | _, 0 => 1
  | 0, _ + 1 => 0
  | n + 1, k + 1 => chs n k + chs n (k + 1)
theorem chs_zero (n : Nat) : chs n 0 = 1 := by cases n <;> rfl
theorem chs_lt : ∀ {n k : Nat}, n < k → chs n k = 0
  | 0, k + 1, _ => rfl
  | n + 1, k + 1, h => by unfold chs; rw [chs_lt (by omega), chs_lt (by omega)]
theorem chs_step : ∀ (n k : Nat), k ≤ n → chs n (k + 1) * (k + 1) = chs n k * (n - k)
  | 0, k, h => by
    have : k = 0 := by omega
    subst this; rfl
  | n + 1, 0, _ => by
    show (chs n 0 + chs n 1) * 1 = chs (n + 1) 0 * (n + 1)
    have := chs_step n 0 (Nat.zero_le _)
    rw [chs_zero, Nat.sub_zero, Nat.one_mul, Nat.zero_add, Nat.mul_one] at this
    rw [chs_zero, chs_zero, this]
    omega
  | n + 1, k + 1, h => by
    show (chs n (k + 1) + chs n (k + 1 + 1)) * (k + 1 + 1) = (chs n k + chs n (k + 1)) * (n + 1 - (k + 1))
    have h1 := chs_step n k (by omega)
    by_cases hk : k + 1 ≤ n
    · have h2 := chs_step n (k + 1) hk
      obtain ⟨d, rfl⟩ : ∃ d, n = k + 1 + d := ⟨n - (k + 1), by omega⟩
      have e1 : k + 1 + d - k = d + 1 := by omega
      have e2 : k + 1 + d - (k + 1) = d := by omega
      have e3 : k + 1 + d + 1 - (k + 1) = d + 1 := by omega
      rw [e1] at h1
      rw [e2] at h2
      rw [e3]
      generalize chs (k + 1 + d) k = A at *
      generalize chs (k + 1 + d) (k + 1) = B at *
      generalize chs (k + 1 + d) (k + 1 + 1) = C at *
      grind
    · have : n = k := by omega
      subst this
      rw [chs_lt (show n < n + 1 by omega), chs_lt (show n < n + 1 + 1 by omega)]
      simp
def wys (n m : Int) : Int := if m > n then 0 else (chs n.toNat m.toNat : Nat)
section
variable {P : Nat → Option Fd}
theorem chs_le_pow (n : Nat) : ∀ k, chs n k ≤ (n + 1) ^ k
  | 0 => by rw [chs_zero]; simp
  | k + 1 => by
    have ih := chs_le_pow n k
    by_cases h : k ≤ n
    · have := chs_step n k h
      have h1 : chs n (k + 1) ≤ chs n k * (n - k) := by
        rw [← this]
        exact Nat.le_mul_of_pos_right _ (Nat.succ_pos _)
      calc chs n (k + 1) ≤ chs n k * (n - k) := h1
        _ ≤ (n + 1) ^ k * (n + 1) := Nat.mul_le_mul ih (by omega)
        _ = (n + 1) ^ (k + 1) := (Nat.pow_succ ..).symm
    · rw [chs_lt (by omega)]; exact Nat.zero_le _
theorem iota_get {lo : Int} {n i : Nat} {d : D} (h : (iotaI lo n)[i]? = some d) : d = .int (lo + (i : Nat)) ∧ i < n := by
  unfold iotaI at h
  have hi : i < n := by
    have := (List.getElem?_eq_some_iff.mp h).1
    rw [List.length_map, List.length_range] at this; exact this
  rw [List.getElem?_map, List.getElem?_range hi] at h
  cases h; exact ⟨rfl, hi⟩
theorem iota_len (lo : Int) (n : Nat) : (iotaI lo n).length = n := by unfold iotaI; rw [List.length_map, List.length_range]
theorem p_ways (hP : P n_ways = some d_ways) {n m : Int} (h0 : 0 ≤ m) (h1 : m ≤ 12) (h2 : n ≤ 10 ^ 13) : Spec P 1 n_ways [.dat (.int n), .dat (.int m)] (.ok (.dat (.int (wys n m))) []) := by
  refine spec_of hP rfl fun K _ => ?_
  generalize dFun P K = Φ
  unfold wys
  by_cases hnm : n < m
  · simp only [e_var, e_cst, e_gfn, e_op2, e_fn1, e_fn2, e_isi, e_and, e_or, e_not, e_ite, e_chain, e_lst, e_tup, e_emp, e_nil, e_cons, e_slcL, e_slcU, e_call, e_callIo, e_comp, e_compIf, i_of, i_rng1, i_rng2, i_enum, i_zip, s_nil, s_cons, s_set, s_unp, s_par, s_drop, s_ret, s_ite, s_for, s_raise, s_app, s_sti, t_C, t_If, t_F, look_dat, look_lst, look_dct, look_io, look_fn, look_exc, look_scr, ioCall_lst, ioCall_io, stB_lst, stB_io, seq_next, seq_ret, seq_exc, R.bind_ok, R.bind_exc, oR_some, oO_some, noX_ok, gd_true, br_true, br_false, tru_bool, intOf_int, ofO_some, ofS_some, ofOut_ok, ofOut_exc, op2_dat, op2_newL, op2_slot, opd_some, fn1_dat, fn1_newL, fn1_slot, fnd_some, fn1_scr, op2_scr', fn2_dat, peek_dat', peek_newL, peek_slot, pkB_lst, pkB_io, isi_dat, frz_dat, frz_newL, frz_newD, frz_slot, fzB_lst, frzs_nil, frzs_cons, args_nil, args_fn, args_scr, args_dat, args_newL, args_newD, args_slot, setB_eq, setO_un, setO_dat, setO_lst, setO_fn, setV_newL, setV_newD, setV_fn, setV_dat, setV_slot, setDs_nil, setDs_cons, setTg_name, setTg_names, seqOf_list, seqOf_tuple, tupOf_tuple, lstOf_lst, zipS_list, zipS_tuple, ownL_eq, ownB_lst, ownB_io, ofOutIo_ok, oioB_io, oioB_lst, retV_dat, retV_newL, retV_slot, rtB_lst, ownOk_nil, ownOk_cons, ownF_un, ownF_dat, wipeB_nil, wipeB_cons, backB_nil, backB_cons, getD_some', and_tt, v_lenS, v_ixS, seqOf_sq, gdU_true, retO_some, end_ret, end_next, end_exc, ioS_io, ioS_dat, ioS_fn, ioS_exc, ioS_scr, ioOf_io, ioOf_dat, ioOf_fn, ioOf_exc, ioOf_scr, isIo_io, isIo_dat, isIo_fn, isIo_exc, isIo_scr, beq_self_eq_true, gdO_true, v_add, v_addL, v_addT, v_sub, v_mul, v_mulL, v_mulT, v_fdiv, v_mod, v_pow, v_lt, v_le, v_gt, v_ge, v_eq, v_ne, v_ixL, v_ixT, v_lenL, v_lenT, v_tupL, v_tupT, v_lstL, v_lstT, v_sum, v_sumT, v_all, v_any, v_neg, v_isN, v_notN, v_isT, v_notT, v_max, v_min, map_some', plain_one, isTys_one, List.getElem?_cons_zero, List.getElem?_cons_succ, List.set_cons_zero, List.set_cons_succ, List.cons_append, List.nil_append, List.map_cons, List.map_nil, arB, e_slcB, e_inRng, e_callV, e_callS, fnB_fn, i_wip, s_wipe, s_try, try_ret, try_exc, outR_ok, s_while, v_repr, v_revL, v_revT, v_intB, v_isF, v_notF, v_nil, cutT, cutL, cutN, cutS, cutD_list, List.replicate_succ, List.replicate_zero, c_ways, hnm, decide_true, if_true]
  · have hr : rngOk m = true := rngOk_of' (by omega) (by omega)
    simp only [e_var, e_cst, e_gfn, e_op2, e_fn1, e_fn2, e_isi, e_and, e_or, e_not, e_ite, e_chain, e_lst, e_tup, e_emp, e_nil, e_cons, e_slcL, e_slcU, e_call, e_callIo, e_comp, e_compIf, i_of, i_rng1, i_rng2, i_enum, i_zip, s_nil, s_cons, s_set, s_unp, s_par, s_drop, s_ret, s_ite, s_for, s_raise, s_app, s_sti, t_C, t_If, t_F, look_dat, look_lst, look_dct, look_io, look_fn, look_exc, look_scr, ioCall_lst, ioCall_io, stB_lst, stB_io, seq_next, seq_ret, seq_exc, R.bind_ok, R.bind_exc, oR_some, oO_some, noX_ok, gd_true, br_true, br_false, tru_bool, intOf_int, ofO_some, ofS_some, ofOut_ok, ofOut_exc, op2_dat, op2_newL, op2_slot, opd_some, fn1_dat, fn1_newL, fn1_slot, fnd_some, fn1_scr, op2_scr', fn2_dat, peek_dat', peek_newL, peek_slot, pkB_lst, pkB_io, isi_dat, frz_dat, frz_newL, frz_newD, frz_slot, fzB_lst, frzs_nil, frzs_cons, args_nil, args_fn, args_scr, args_dat, args_newL, args_newD, args_slot, setB_eq, setO_un, setO_dat, setO_lst, setO_fn, setV_newL, setV_newD, setV_fn, setV_dat, setV_slot, setDs_nil, setDs_cons, setTg_name, setTg_names, seqOf_list, seqOf_tuple, tupOf_tuple, lstOf_lst, zipS_list, zipS_tuple, ownL_eq, ownB_lst, ownB_io, ofOutIo_ok, oioB_io, oioB_lst, retV_dat, retV_newL, retV_slot, rtB_lst, ownOk_nil, ownOk_cons, ownF_un, ownF_dat, wipeB_nil, wipeB_cons, backB_nil, backB_cons, getD_some', and_tt, v_lenS, v_ixS, seqOf_sq, gdU_true, retO_some, end_ret, end_next, end_exc, ioS_io, ioS_dat, ioS_fn, ioS_exc, ioS_scr, ioOf_io, ioOf_dat, ioOf_fn, ioOf_exc, ioOf_scr, isIo_io, isIo_dat, isIo_fn, isIo_exc, isIo_scr, beq_self_eq_true, gdO_true, v_add, v_addL, v_addT, v_sub, v_mul, v_mulL, v_mulT, v_fdiv, v_mod, v_pow, v_lt, v_le, v_gt, v_ge, v_eq, v_ne, v_ixL, v_ixT, v_lenL, v_lenT, v_tupL, v_tupT, v_lstL, v_lstT, v_sum, v_sumT, v_all, v_any, v_neg, v_isN, v_notN, v_isT, v_notT, v_max, v_min, map_some', plain_one, isTys_one, List.getElem?_cons_zero, List.getElem?_cons_succ, List.set_cons_zero, List.set_cons_succ, List.cons_append, List.nil_append, List.map_cons, List.map_nil, arB, e_slcB, e_inRng, e_callV, e_callS, fnB_fn, i_wip, s_wipe, s_try, try_ret, try_exc, outR_ok, s_while, v_repr, v_revL, v_revT, v_intB, v_isF, v_notF, v_nil, cutT, cutL, cutN, cutS, cutD_list, List.replicate_succ, List.replicate_zero, c_ways, hnm, decide_false, hr, if_false]
    generalize hL : loopF _ _ _ = L
    obtain ⟨s', rfl, q⟩ := loop_eq hL (fun i s => i ≤ m.toNat ∧ ∃ b, s = [.dat (.int n), .dat (.int m), .dat (.int (chs n.toNat i : Nat)), b] ∧ loose b) ⟨Nat.zero_le _, .un, by rw [chs_zero]; rfl, trivial⟩ (fun i x s hx hq => by
        obtain ⟨hi, b, rfl, hb⟩ := hq
        obtain ⟨rfl, hlt⟩ := iota_get hx
        have hN : n.toNat ≤ 10 ^ 13 := by omega
        have hm1 : mulOk (chs n.toNat i : Nat) (n - (0 + (i : Int))) = true := by
          refine mulOk_of2 600 50 ?_ ?_ (by decide)
          · have e1 : chs n.toNat i ≤ (10 ^ 13 + 1) ^ 12 := Nat.le_trans (chs_le_pow _ _) (Nat.le_trans (Nat.pow_le_pow_left (by omega) _) (Nat.pow_le_pow_right (by decide) (by omega)))
            have : ((chs n.toNat i : Nat) : Int).natAbs = chs n.toNat i := by omega
            rw [this]
            exact Nat.lt_of_le_of_lt e1 (by decide +kernel)
          · have : (n - (0 + (i : Int))).natAbs ≤ 10 ^ 13 := by omega
            exact Nat.lt_of_le_of_lt this (by decide)
        have hd1 : divOk (0 + (i : Int) + 1) = true := divOk_of (by omega) (by omega)
        have ev : ((chs n.toNat i : Nat) : Int) * (n - (0 + (i : Int))) / (0 + (i : Int) + 1) = (chs n.toNat (i + 1) : Nat) := by
          have hs := chs_step n.toNat i (by omega)
          have e2 : n - (0 + (i : Int)) = ((n.toNat - i : Nat) : Int) := by omega
          rw [e2]
          have e3 : (0 + (i : Int) + 1) = ((i + 1 : Nat) : Int) := by omega
          rw [e3, ← Int.natCast_mul, ← hs, Int.natCast_mul]
          exact Int.mul_ediv_cancel _ (by omega)
        simp only [e_var, e_cst, e_gfn, e_op2, e_fn1, e_fn2, e_isi, e_and, e_or, e_not, e_ite, e_chain, e_lst, e_tup, e_emp, e_nil, e_cons, e_slcL, e_slcU, e_call, e_callIo, e_comp, e_compIf, i_of, i_rng1, i_rng2, i_enum, i_zip, s_nil, s_cons, s_set, s_unp, s_par, s_drop, s_ret, s_ite, s_for, s_raise, s_app, s_sti, t_C, t_If, t_F, look_dat, look_lst, look_dct, look_io, look_fn, look_exc, look_scr, ioCall_lst, ioCall_io, stB_lst, stB_io, seq_next, seq_ret, seq_exc, R.bind_ok, R.bind_exc, oR_some, oO_some, noX_ok, gd_true, br_true, br_false, tru_bool, intOf_int, ofO_some, ofS_some, ofOut_ok, ofOut_exc, op2_dat, op2_newL, op2_slot, opd_some, fn1_dat, fn1_newL, fn1_slot, fnd_some, fn1_scr, op2_scr', fn2_dat, peek_dat', peek_newL, peek_slot, pkB_lst, pkB_io, isi_dat, frz_dat, frz_newL, frz_newD, frz_slot, fzB_lst, frzs_nil, frzs_cons, args_nil, args_fn, args_scr, args_dat, args_newL, args_newD, args_slot, setB_eq, setO_un, setO_dat, setO_lst, setO_fn, setV_newL, setV_newD, setV_fn, setV_dat, setV_slot, setDs_nil, setDs_cons, setTg_name, setTg_names, seqOf_list, seqOf_tuple, tupOf_tuple, lstOf_lst, zipS_list, zipS_tuple, ownL_eq, ownB_lst, ownB_io, ofOutIo_ok, oioB_io, oioB_lst, retV_dat, retV_newL, retV_slot, rtB_lst, ownOk_nil, ownOk_cons, ownF_un, ownF_dat, wipeB_nil, wipeB_cons, backB_nil, backB_cons, getD_some', and_tt, v_lenS, v_ixS, seqOf_sq, gdU_true, retO_some, end_ret, end_next, end_exc, ioS_io, ioS_dat, ioS_fn, ioS_exc, ioS_scr, ioOf_io, ioOf_dat, ioOf_fn, ioOf_exc, ioOf_scr, isIo_io, isIo_dat, isIo_fn, isIo_exc, isIo_scr, beq_self_eq_true, gdO_true, v_add, v_addL, v_addT, v_sub, v_mul, v_mulL, v_mulT, v_fdiv, v_mod, v_pow, v_lt, v_le, v_gt, v_ge, v_eq, v_ne, v_ixL, v_ixT, v_lenL, v_lenT, v_tupL, v_tupT, v_lstL, v_lstT, v_sum, v_sumT, v_all, v_any, v_neg, v_isN, v_notN, v_isT, v_notT, v_max, v_min, map_some', plain_one, isTys_one, List.getElem?_cons_zero, List.getElem?_cons_succ, List.set_cons_zero, List.set_cons_succ, List.cons_append, List.nil_append, List.map_cons, List.map_nil, arB, e_slcB, e_inRng, e_callV, e_callS, fnB_fn, i_wip, s_wipe, s_try, try_ret, try_exc, outR_ok, s_while, v_repr, v_revL, v_revT, v_intB, v_isF, v_notF, v_nil, cutT, cutL, cutN, cutS, cutD_list, List.replicate_succ, List.replicate_zero, hm1, hd1, ev, setO_loose hb]
        exact ⟨_, rfl, by omega, _, rfl, trivial⟩)
    obtain ⟨_, b, rfl, _⟩ := q
    rw [iota_len]
    simp only [e_var, e_cst, e_gfn, e_op2, e_fn1, e_fn2, e_isi, e_and, e_or, e_not, e_ite, e_chain, e_lst, e_tup, e_emp, e_nil, e_cons, e_slcL, e_slcU, e_call, e_callIo, e_comp, e_compIf, i_of, i_rng1, i_rng2, i_enum, i_zip, s_nil, s_cons, s_set, s_unp, s_par, s_drop, s_ret, s_ite, s_for, s_raise, s_app, s_sti, t_C, t_If, t_F, look_dat, look_lst, look_dct, look_io, look_fn, look_exc, look_scr, ioCall_lst, ioCall_io, stB_lst, stB_io, seq_next, seq_ret, seq_exc, R.bind_ok, R.bind_exc, oR_some, oO_some, noX_ok, gd_true, br_true, br_false, tru_bool, intOf_int, ofO_some, ofS_some, ofOut_ok, ofOut_exc, op2_dat, op2_newL, op2_slot, opd_some, fn1_dat, fn1_newL, fn1_slot, fnd_some, fn1_scr, op2_scr', fn2_dat, peek_dat', peek_newL, peek_slot, pkB_lst, pkB_io, isi_dat, frz_dat, frz_newL, frz_newD, frz_slot, fzB_lst, frzs_nil, frzs_cons, args_nil, args_fn, args_scr, args_dat, args_newL, args_newD, args_slot, setB_eq, setO_un, setO_dat, setO_lst, setO_fn, setV_newL, setV_newD, setV_fn, setV_dat, setV_slot, setDs_nil, setDs_cons, setTg_name, setTg_names, seqOf_list, seqOf_tuple, tupOf_tuple, lstOf_lst, zipS_list, zipS_tuple, ownL_eq, ownB_lst, ownB_io, ofOutIo_ok, oioB_io, oioB_lst, retV_dat, retV_newL, retV_slot, rtB_lst, ownOk_nil, ownOk_cons, ownF_un, ownF_dat, wipeB_nil, wipeB_cons, backB_nil, backB_cons, getD_some', and_tt, v_lenS, v_ixS, seqOf_sq, gdU_true, retO_some, end_ret, end_next, end_exc, ioS_io, ioS_dat, ioS_fn, ioS_exc, ioS_scr, ioOf_io, ioOf_dat, ioOf_fn, ioOf_exc, ioOf_scr, isIo_io, isIo_dat, isIo_fn, isIo_exc, isIo_scr, beq_self_eq_true, gdO_true, v_add, v_addL, v_addT, v_sub, v_mul, v_mulL, v_mulT, v_fdiv, v_mod, v_pow, v_lt, v_le, v_gt, v_ge, v_eq, v_ne, v_ixL, v_ixT, v_lenL, v_lenT, v_tupL, v_tupT, v_lstL, v_lstT, v_sum, v_sumT, v_all, v_any, v_neg, v_isN, v_notN, v_isT, v_notT, v_max, v_min, map_some', plain_one, isTys_one, List.getElem?_cons_zero, List.getElem?_cons_succ, List.set_cons_zero, List.set_cons_succ, List.cons_append, List.nil_append, List.map_cons, List.map_nil, arB, e_slcB, e_inRng, e_callV, e_callS, fnB_fn, i_wip, s_wipe, s_try, try_ret, try_exc, outR_ok, s_while, v_repr, v_revL, v_revT, v_intB, v_isF, v_notF, v_nil, cutT, cutL, cutN, cutS, cutD_list, List.replicate_succ, List.replicate_zero]
theorem iota_get0 {n i : Nat} {d : D} (h : (iotaI 0 n)[i]? = some d) : d = .int (i : Nat) ∧ i < n := by
  obtain ⟨rfl, h2⟩ := iota_get h
  exact ⟨by rw [Int.zero_add], h2⟩
def sumR : Nat → (Nat → Int) → Int
  | 0, _ => 0
  | n + 1, g => sumR n g + g n
theorem sumR_congr : ∀ {n : Nat} {f g : Nat → Int}, (∀ i, i < n → f i = g i) → sumR n f = sumR n g
  | 0, _, _, _ => rfl
  | n + 1, f, g, h => by
    show sumR n f + f n = sumR n g + g n
    rw [sumR_congr fun i hi => h i (by omega), h n (by omega)]
theorem sumR_list : ∀ (n : Nat) (g : Nat → Int), ((List.range n).map g).sum = sumR n g
  | 0, _ => rfl
  | n + 1, g => by rw [List.range_succ, List.map_append, List.sum_append, sumR_list n g]; simp [sumR]
def sg (d x : Int) : Int := if d % 2 = 0 then x else 0 - x
def trT (w : Int) (ns : List Int) (k i : Nat) : Int := sg ((k : Int) - (i : Int)) (ns.getD i 0 * wys (w - (i : Int)) ((k : Int) - (i : Int)))
def tr (w : Int) (ns : List Int) (k : Nat) : Int := sumR (k + 1) (trT w ns k)
def trL (w : Int) (ns : List Int) : List Int := (List.range ns.length).map (tr w ns)
def tupI (ns : List Int) : D := .tuple (ns.map .int)
/-- no number is too far -/
def Bd (b : Nat) (ns : List Int) : Prop := ∀ n ∈ ns, n.natAbs < 2 ^ b
theorem atI_map' {ns : List Int} {i : Nat} (h : i < ns.length) : L2.atI (ns.map PyData.int) (i : Int) = some (.int (ns.getD i 0)) := by
  rw [atI_nat, List.getElem?_map, List.getElem?_eq_getElem h]
  simp [List.getD, h]
theorem atI_two {a b : D} {x : Int} : L2.atI [a, b] (x % 2) = some (if x % 2 = 0 then a else b) := by
  have h1 : 0 ≤ x % 2 := Int.emod_nonneg _ (by decide)
  have h2 : x % 2 < 2 := Int.emod_lt_of_pos _ (by decide)
  by_cases h : x % 2 = 0
  · rw [if_pos h, h]; rfl
  · have : x % 2 = 1 := by omega
    rw [if_neg h, this]; rfl
theorem wys_lt {n m : Int} (h1 : m ≤ 12) (h2 : n ≤ 10 ^ 13) : (wys n m).natAbs < 2 ^ 600 := by
  unfold wys
  split
  · decide +kernel
  · have e1 : chs n.toNat m.toNat ≤ (10 ^ 13 + 1) ^ 12 := Nat.le_trans (chs_le_pow _ _) (Nat.le_trans (Nat.pow_le_pow_left (by omega) _) (Nat.pow_le_pow_right (by decide) (by omega)))
    rw [Int.natAbs_natCast]
    exact Nat.lt_of_le_of_lt e1 (by decide +kernel)
theorem getD_mem {ns : List Int} {i : Nat} (h : i < ns.length) : ns.getD i 0 ∈ ns := by
  simp [List.getD, h]
theorem mulOk_bd {ns : List Int} {i b : Nat} {n m : Int} (hb : Bd b ns) (hb2 : b ≤ 9000) (hi : i < ns.length) (h1 : m ≤ 12) (h2 : n ≤ 10 ^ 13) : mulOk (ns.getD i 0) (wys n m) = true :=
  mulOk_of2 b 600 (hb _ (getD_mem hi)) (wys_lt h1 h2) (by omega)
theorem p_turned_by (hP : P n_turned_by = some d_turned_by) (hw : P n_ways = some d_ways) {w : Int} {ns : List Int} {b : Nat} (h1 : ns.length ≤ 12) (h2 : w ≤ 10 ^ 13) (hb : Bd b ns) (hb2 : b ≤ 9000) :
    Spec P 2 n_turned_by [.dat (.int w), .dat (tupI ns)] (.ok (.dat (tupI (trL w ns))) []) := by
  refine spec_of hP rfl fun K hK => ?_
  have hr : rngOk (ns.length : Int) = true := rngOk_of' (by omega) (by omega)
  unfold tupI
  simp only [e_var, e_cst, e_gfn, e_op2, e_fn1, e_fn2, e_isi, e_and, e_or, e_not, e_ite, e_chain, e_lst, e_tup, e_emp, e_nil, e_cons, e_slcL, e_slcU, e_call, e_callIo, e_comp, e_compIf, i_of, i_rng1, i_rng2, i_enum, i_zip, s_nil, s_cons, s_set, s_unp, s_par, s_drop, s_ret, s_ite, s_for, s_raise, s_app, s_sti, t_C, t_If, t_F, look_dat, look_lst, look_dct, look_io, look_fn, look_exc, look_scr, ioCall_lst, ioCall_io, stB_lst, stB_io, seq_next, seq_ret, seq_exc, R.bind_ok, R.bind_exc, oR_some, oO_some, noX_ok, gd_true, br_true, br_false, tru_bool, intOf_int, ofO_some, ofS_some, ofOut_ok, ofOut_exc, op2_dat, op2_newL, op2_slot, opd_some, fn1_dat, fn1_newL, fn1_slot, fnd_some, fn1_scr, op2_scr', fn2_dat, peek_dat', peek_newL, peek_slot, pkB_lst, pkB_io, isi_dat, frz_dat, frz_newL, frz_newD, frz_slot, fzB_lst, frzs_nil, frzs_cons, args_nil, args_fn, args_scr, args_dat, args_newL, args_newD, args_slot, setB_eq, setO_un, setO_dat, setO_lst, setO_fn, setV_newL, setV_newD, setV_fn, setV_dat, setV_slot, setDs_nil, setDs_cons, setTg_name, setTg_names, seqOf_list, seqOf_tuple, tupOf_tuple, lstOf_lst, zipS_list, zipS_tuple, ownL_eq, ownB_lst, ownB_io, ofOutIo_ok, oioB_io, oioB_lst, retV_dat, retV_newL, retV_slot, rtB_lst, ownOk_nil, ownOk_cons, ownF_un, ownF_dat, wipeB_nil, wipeB_cons, backB_nil, backB_cons, getD_some', and_tt, v_lenS, v_ixS, seqOf_sq, gdU_true, retO_some, end_ret, end_next, end_exc, ioS_io, ioS_dat, ioS_fn, ioS_exc, ioS_scr, ioOf_io, ioOf_dat, ioOf_fn, ioOf_exc, ioOf_scr, isIo_io, isIo_dat, isIo_fn, isIo_exc, isIo_scr, beq_self_eq_true, gdO_true, v_add, v_addL, v_addT, v_sub, v_mul, v_mulL, v_mulT, v_fdiv, v_mod, v_pow, v_lt, v_le, v_gt, v_ge, v_eq, v_ne, v_ixL, v_ixT, v_lenL, v_lenT, v_tupL, v_tupT, v_lstL, v_lstT, v_sum, v_sumT, v_all, v_any, v_neg, v_isN, v_notN, v_isT, v_notT, v_max, v_min, map_some', plain_one, isTys_one, List.getElem?_cons_zero, List.getElem?_cons_succ, List.set_cons_zero, List.set_cons_succ, List.cons_append, List.nil_append, List.map_cons, List.map_nil, arB, e_slcB, e_inRng, e_callV, e_callS, fnB_fn, i_wip, s_wipe, s_try, try_ret, try_exc, outR_ok, s_while, v_repr, v_revL, v_revT, v_intB, v_isF, v_notF, v_nil, cutT, cutL, cutN, cutS, cutD_list, List.replicate_succ, List.replicate_zero, c_turned_by, List.length_map, List.length_nil, lenOk_of' (Nat.zero_le _), hr, Int.toNat_natCast]
  generalize hL : loopF _ _ _ = L
  obtain ⟨s', rfl, q⟩ := loop_eq hL (fun k s => k ≤ ns.length ∧ ∃ b3 b4 b5 b6, s = [.dat (.int w), .dat (.tuple (ns.map .int)), .lst (((List.range k).map (tr w ns)).map .int), b3, b4, b5, b6] ∧ loose b3 ∧ loose b4 ∧ loose b5 ∧ loose b6) ⟨Nat.zero_le _, .un, .un, .un, .un, rfl, trivial, trivial, trivial, trivial⟩ (fun k x s hx hq => by
      obtain ⟨hk, b3, b4, b5, b6, rfl, l3, l4, l5, l6⟩ := hq
      obtain ⟨rfl, hlt⟩ := iota_get0 hx
      have hr2 : rngOk ((k : Int) + 1) = true := rngOk_of' (by omega) (by omega)
      simp only [e_var, e_cst, e_gfn, e_op2, e_fn1, e_fn2, e_isi, e_and, e_or, e_not, e_ite, e_chain, e_lst, e_tup, e_emp, e_nil, e_cons, e_slcL, e_slcU, e_call, e_callIo, e_comp, e_compIf, i_of, i_rng1, i_rng2, i_enum, i_zip, s_nil, s_cons, s_set, s_unp, s_par, s_drop, s_ret, s_ite, s_for, s_raise, s_app, s_sti, t_C, t_If, t_F, look_dat, look_lst, look_dct, look_io, look_fn, look_exc, look_scr, ioCall_lst, ioCall_io, stB_lst, stB_io, seq_next, seq_ret, seq_exc, R.bind_ok, R.bind_exc, oR_some, oO_some, noX_ok, gd_true, br_true, br_false, tru_bool, intOf_int, ofO_some, ofS_some, ofOut_ok, ofOut_exc, op2_dat, op2_newL, op2_slot, opd_some, fn1_dat, fn1_newL, fn1_slot, fnd_some, fn1_scr, op2_scr', fn2_dat, peek_dat', peek_newL, peek_slot, pkB_lst, pkB_io, isi_dat, frz_dat, frz_newL, frz_newD, frz_slot, fzB_lst, frzs_nil, frzs_cons, args_nil, args_fn, args_scr, args_dat, args_newL, args_newD, args_slot, setB_eq, setO_un, setO_dat, setO_lst, setO_fn, setV_newL, setV_newD, setV_fn, setV_dat, setV_slot, setDs_nil, setDs_cons, setTg_name, setTg_names, seqOf_list, seqOf_tuple, tupOf_tuple, lstOf_lst, zipS_list, zipS_tuple, ownL_eq, ownB_lst, ownB_io, ofOutIo_ok, oioB_io, oioB_lst, retV_dat, retV_newL, retV_slot, rtB_lst, ownOk_nil, ownOk_cons, ownF_un, ownF_dat, wipeB_nil, wipeB_cons, backB_nil, backB_cons, getD_some', and_tt, v_lenS, v_ixS, seqOf_sq, gdU_true, retO_some, end_ret, end_next, end_exc, ioS_io, ioS_dat, ioS_fn, ioS_exc, ioS_scr, ioOf_io, ioOf_dat, ioOf_fn, ioOf_exc, ioOf_scr, isIo_io, isIo_dat, isIo_fn, isIo_exc, isIo_scr, beq_self_eq_true, gdO_true, v_add, v_addL, v_addT, v_sub, v_mul, v_mulL, v_mulT, v_fdiv, v_mod, v_pow, v_lt, v_le, v_gt, v_ge, v_eq, v_ne, v_ixL, v_ixT, v_lenL, v_lenT, v_tupL, v_tupT, v_lstL, v_lstT, v_sum, v_sumT, v_all, v_any, v_neg, v_isN, v_notN, v_isT, v_notT, v_max, v_min, map_some', plain_one, isTys_one, List.getElem?_cons_zero, List.getElem?_cons_succ, List.set_cons_zero, List.set_cons_succ, List.cons_append, List.nil_append, List.map_cons, List.map_nil, arB, e_slcB, e_inRng, e_callV, e_callS, fnB_fn, i_wip, s_wipe, s_try, try_ret, try_exc, outR_ok, s_while, v_repr, v_revL, v_revT, v_intB, v_isF, v_notF, v_nil, cutT, cutL, cutN, cutS, cutD_list, List.replicate_succ, List.replicate_zero, setO_loose l3, setO_loose l4, hr2, show ((k : Int) + 1).toNat = k + 1 by omega]
      generalize hM : loopF _ _ _ = M
      obtain ⟨s2, rfl, q2⟩ := loop_eq hM (fun i s => i ≤ k + 1 ∧ ∃ c5 c6, s = [.dat (.int w), .dat (.tuple (ns.map .int)), .lst (((List.range k).map (tr w ns)).map .int), .dat (.int (k : Nat)), .dat (.int (sumR i (trT w ns k))), c5, c6] ∧ loose c5 ∧ loose c6) ⟨Nat.zero_le _, b5, b6, rfl, l5, l6⟩ (fun i y s hy hq2 => by
          obtain ⟨hi, c5, c6, rfl, m5, m6⟩ := hq2
          obtain ⟨rfl, hlt2⟩ := iota_get0 hy
          have hil : i < ns.length := by omega
          have hw1 := p_ways hw (n := w - (i : Int)) (m := (k : Int) - (i : Int)) (by omega) (by omega) (by omega) K hK
          have hm1 := mulOk_bd (n := w - (i : Int)) (m := (k : Int) - (i : Int)) hb hb2 hil (by omega) (by omega)
          simp only [e_var, e_cst, e_gfn, e_op2, e_fn1, e_fn2, e_isi, e_and, e_or, e_not, e_ite, e_chain, e_lst, e_tup, e_emp, e_nil, e_cons, e_slcL, e_slcU, e_call, e_callIo, e_comp, e_compIf, i_of, i_rng1, i_rng2, i_enum, i_zip, s_nil, s_cons, s_set, s_unp, s_par, s_drop, s_ret, s_ite, s_for, s_raise, s_app, s_sti, t_C, t_If, t_F, look_dat, look_lst, look_dct, look_io, look_fn, look_exc, look_scr, ioCall_lst, ioCall_io, stB_lst, stB_io, seq_next, seq_ret, seq_exc, R.bind_ok, R.bind_exc, oR_some, oO_some, noX_ok, gd_true, br_true, br_false, tru_bool, intOf_int, ofO_some, ofS_some, ofOut_ok, ofOut_exc, op2_dat, op2_newL, op2_slot, opd_some, fn1_dat, fn1_newL, fn1_slot, fnd_some, fn1_scr, op2_scr', fn2_dat, peek_dat', peek_newL, peek_slot, pkB_lst, pkB_io, isi_dat, frz_dat, frz_newL, frz_newD, frz_slot, fzB_lst, frzs_nil, frzs_cons, args_nil, args_fn, args_scr, args_dat, args_newL, args_newD, args_slot, setB_eq, setO_un, setO_dat, setO_lst, setO_fn, setV_newL, setV_newD, setV_fn, setV_dat, setV_slot, setDs_nil, setDs_cons, setTg_name, setTg_names, seqOf_list, seqOf_tuple, tupOf_tuple, lstOf_lst, zipS_list, zipS_tuple, ownL_eq, ownB_lst, ownB_io, ofOutIo_ok, oioB_io, oioB_lst, retV_dat, retV_newL, retV_slot, rtB_lst, ownOk_nil, ownOk_cons, ownF_un, ownF_dat, wipeB_nil, wipeB_cons, backB_nil, backB_cons, getD_some', and_tt, v_lenS, v_ixS, seqOf_sq, gdU_true, retO_some, end_ret, end_next, end_exc, ioS_io, ioS_dat, ioS_fn, ioS_exc, ioS_scr, ioOf_io, ioOf_dat, ioOf_fn, ioOf_exc, ioOf_scr, isIo_io, isIo_dat, isIo_fn, isIo_exc, isIo_scr, beq_self_eq_true, gdO_true, v_add, v_addL, v_addT, v_sub, v_mul, v_mulL, v_mulT, v_fdiv, v_mod, v_pow, v_lt, v_le, v_gt, v_ge, v_eq, v_ne, v_ixL, v_ixT, v_lenL, v_lenT, v_tupL, v_tupT, v_lstL, v_lstT, v_sum, v_sumT, v_all, v_any, v_neg, v_isN, v_notN, v_isT, v_notT, v_max, v_min, map_some', plain_one, isTys_one, List.getElem?_cons_zero, List.getElem?_cons_succ, List.set_cons_zero, List.set_cons_succ, List.cons_append, List.nil_append, List.map_cons, List.map_nil, arB, e_slcB, e_inRng, e_callV, e_callS, fnB_fn, i_wip, s_wipe, s_try, try_ret, try_exc, outR_ok, s_while, v_repr, v_revL, v_revT, v_intB, v_isF, v_notF, v_nil, cutT, cutL, cutN, cutS, cutD_list, List.replicate_succ, List.replicate_zero, setO_loose m5, setO_loose m6, atI_map' hil, hw1, hm1, List.length_cons, List.length_nil, atI_two, show lenOk (0 + 1 + 1) = true from rfl, show decide ((0 : Int) < 2) = true from rfl]
          rw [show (if ((k : Int) - (i : Int)) % 2 = 0 then PyData.int (ns.getD i 0 * wys (w - (i : Int)) ((k : Int) - (i : Int))) else PyData.int (0 - ns.getD i 0 * wys (w - (i : Int)) ((k : Int) - (i : Int)))) = PyData.int (trT w ns k i) from by
            unfold trT sg
            split <;> rfl]
          simp only [e_var, e_cst, e_gfn, e_op2, e_fn1, e_fn2, e_isi, e_and, e_or, e_not, e_ite, e_chain, e_lst, e_tup, e_emp, e_nil, e_cons, e_slcL, e_slcU, e_call, e_callIo, e_comp, e_compIf, i_of, i_rng1, i_rng2, i_enum, i_zip, s_nil, s_cons, s_set, s_unp, s_par, s_drop, s_ret, s_ite, s_for, s_raise, s_app, s_sti, t_C, t_If, t_F, look_dat, look_lst, look_dct, look_io, look_fn, look_exc, look_scr, ioCall_lst, ioCall_io, stB_lst, stB_io, seq_next, seq_ret, seq_exc, R.bind_ok, R.bind_exc, oR_some, oO_some, noX_ok, gd_true, br_true, br_false, tru_bool, intOf_int, ofO_some, ofS_some, ofOut_ok, ofOut_exc, op2_dat, op2_newL, op2_slot, opd_some, fn1_dat, fn1_newL, fn1_slot, fnd_some, fn1_scr, op2_scr', fn2_dat, peek_dat', peek_newL, peek_slot, pkB_lst, pkB_io, isi_dat, frz_dat, frz_newL, frz_newD, frz_slot, fzB_lst, frzs_nil, frzs_cons, args_nil, args_fn, args_scr, args_dat, args_newL, args_newD, args_slot, setB_eq, setO_un, setO_dat, setO_lst, setO_fn, setV_newL, setV_newD, setV_fn, setV_dat, setV_slot, setDs_nil, setDs_cons, setTg_name, setTg_names, seqOf_list, seqOf_tuple, tupOf_tuple, lstOf_lst, zipS_list, zipS_tuple, ownL_eq, ownB_lst, ownB_io, ofOutIo_ok, oioB_io, oioB_lst, retV_dat, retV_newL, retV_slot, rtB_lst, ownOk_nil, ownOk_cons, ownF_un, ownF_dat, wipeB_nil, wipeB_cons, backB_nil, backB_cons, getD_some', and_tt, v_lenS, v_ixS, seqOf_sq, gdU_true, retO_some, end_ret, end_next, end_exc, ioS_io, ioS_dat, ioS_fn, ioS_exc, ioS_scr, ioOf_io, ioOf_dat, ioOf_fn, ioOf_exc, ioOf_scr, isIo_io, isIo_dat, isIo_fn, isIo_exc, isIo_scr, beq_self_eq_true, gdO_true, v_add, v_addL, v_addT, v_sub, v_mul, v_mulL, v_mulT, v_fdiv, v_mod, v_pow, v_lt, v_le, v_gt, v_ge, v_eq, v_ne, v_ixL, v_ixT, v_lenL, v_lenT, v_tupL, v_tupT, v_lstL, v_lstT, v_sum, v_sumT, v_all, v_any, v_neg, v_isN, v_notN, v_isT, v_notT, v_max, v_min, map_some', plain_one, isTys_one, List.getElem?_cons_zero, List.getElem?_cons_succ, List.set_cons_zero, List.set_cons_succ, List.cons_append, List.nil_append, List.map_cons, List.map_nil, arB, e_slcB, e_inRng, e_callV, e_callS, fnB_fn, i_wip, s_wipe, s_try, try_ret, try_exc, outR_ok, s_while, v_repr, v_revL, v_revT, v_intB, v_isF, v_notF, v_nil, cutT, cutL, cutN, cutS, cutD_list, List.replicate_succ, List.replicate_zero]
          exact ⟨_, rfl, by omega, _, _, rfl, trivial, trivial⟩)
      obtain ⟨_, c5, c6, rfl, m5, m6⟩ := q2
      rw [iota_len]
      simp only [e_var, e_cst, e_gfn, e_op2, e_fn1, e_fn2, e_isi, e_and, e_or, e_not, e_ite, e_chain, e_lst, e_tup, e_emp, e_nil, e_cons, e_slcL, e_slcU, e_call, e_callIo, e_comp, e_compIf, i_of, i_rng1, i_rng2, i_enum, i_zip, s_nil, s_cons, s_set, s_unp, s_par, s_drop, s_ret, s_ite, s_for, s_raise, s_app, s_sti, t_C, t_If, t_F, look_dat, look_lst, look_dct, look_io, look_fn, look_exc, look_scr, ioCall_lst, ioCall_io, stB_lst, stB_io, seq_next, seq_ret, seq_exc, R.bind_ok, R.bind_exc, oR_some, oO_some, noX_ok, gd_true, br_true, br_false, tru_bool, intOf_int, ofO_some, ofS_some, ofOut_ok, ofOut_exc, op2_dat, op2_newL, op2_slot, opd_some, fn1_dat, fn1_newL, fn1_slot, fnd_some, fn1_scr, op2_scr', fn2_dat, peek_dat', peek_newL, peek_slot, pkB_lst, pkB_io, isi_dat, frz_dat, frz_newL, frz_newD, frz_slot, fzB_lst, frzs_nil, frzs_cons, args_nil, args_fn, args_scr, args_dat, args_newL, args_newD, args_slot, setB_eq, setO_un, setO_dat, setO_lst, setO_fn, setV_newL, setV_newD, setV_fn, setV_dat, setV_slot, setDs_nil, setDs_cons, setTg_name, setTg_names, seqOf_list, seqOf_tuple, tupOf_tuple, lstOf_lst, zipS_list, zipS_tuple, ownL_eq, ownB_lst, ownB_io, ofOutIo_ok, oioB_io, oioB_lst, retV_dat, retV_newL, retV_slot, rtB_lst, ownOk_nil, ownOk_cons, ownF_un, ownF_dat, wipeB_nil, wipeB_cons, backB_nil, backB_cons, getD_some', and_tt, v_lenS, v_ixS, seqOf_sq, gdU_true, retO_some, end_ret, end_next, end_exc, ioS_io, ioS_dat, ioS_fn, ioS_exc, ioS_scr, ioOf_io, ioOf_dat, ioOf_fn, ioOf_exc, ioOf_scr, isIo_io, isIo_dat, isIo_fn, isIo_exc, isIo_scr, beq_self_eq_true, gdO_true, v_add, v_addL, v_addT, v_sub, v_mul, v_mulL, v_mulT, v_fdiv, v_mod, v_pow, v_lt, v_le, v_gt, v_ge, v_eq, v_ne, v_ixL, v_ixT, v_lenL, v_lenT, v_tupL, v_tupT, v_lstL, v_lstT, v_sum, v_sumT, v_all, v_any, v_neg, v_isN, v_notN, v_isT, v_notT, v_max, v_min, map_some', plain_one, isTys_one, List.getElem?_cons_zero, List.getElem?_cons_succ, List.set_cons_zero, List.set_cons_succ, List.cons_append, List.nil_append, List.map_cons, List.map_nil, arB, e_slcB, e_inRng, e_callV, e_callS, fnB_fn, i_wip, s_wipe, s_try, try_ret, try_exc, outR_ok, s_while, v_repr, v_revL, v_revT, v_intB, v_isF, v_notF, v_nil, cutT, cutL, cutN, cutS, cutD_list, List.replicate_succ, List.replicate_zero, List.length_map, List.length_range, lenOk_of' (show k + 1 ≤ 1000000 by omega)]
      refine ⟨_, rfl, by omega, .dat (.int (k : Nat)), .dat (.int (sumR (k + 1) (trT w ns k))), c5, c6, ?_, trivial, trivial, m5, m6⟩
      rw [List.range_succ, List.map_append, List.map_append]
      rfl)
  obtain ⟨_, b3, b4, b5, b6, rfl, l3, l4, l5, l6⟩ := q
  rw [iota_len]
  simp only [e_var, e_cst, e_gfn, e_op2, e_fn1, e_fn2, e_isi, e_and, e_or, e_not, e_ite, e_chain, e_lst, e_tup, e_emp, e_nil, e_cons, e_slcL, e_slcU, e_call, e_callIo, e_comp, e_compIf, i_of, i_rng1, i_rng2, i_enum, i_zip, s_nil, s_cons, s_set, s_unp, s_par, s_drop, s_ret, s_ite, s_for, s_raise, s_app, s_sti, t_C, t_If, t_F, look_dat, look_lst, look_dct, look_io, look_fn, look_exc, look_scr, ioCall_lst, ioCall_io, stB_lst, stB_io, seq_next, seq_ret, seq_exc, R.bind_ok, R.bind_exc, oR_some, oO_some, noX_ok, gd_true, br_true, br_false, tru_bool, intOf_int, ofO_some, ofS_some, ofOut_ok, ofOut_exc, op2_dat, op2_newL, op2_slot, opd_some, fn1_dat, fn1_newL, fn1_slot, fnd_some, fn1_scr, op2_scr', fn2_dat, peek_dat', peek_newL, peek_slot, pkB_lst, pkB_io, isi_dat, frz_dat, frz_newL, frz_newD, frz_slot, fzB_lst, frzs_nil, frzs_cons, args_nil, args_fn, args_scr, args_dat, args_newL, args_newD, args_slot, setB_eq, setO_un, setO_dat, setO_lst, setO_fn, setV_newL, setV_newD, setV_fn, setV_dat, setV_slot, setDs_nil, setDs_cons, setTg_name, setTg_names, seqOf_list, seqOf_tuple, tupOf_tuple, lstOf_lst, zipS_list, zipS_tuple, ownL_eq, ownB_lst, ownB_io, ofOutIo_ok, oioB_io, oioB_lst, retV_dat, retV_newL, retV_slot, rtB_lst, ownOk_nil, ownOk_cons, ownF_un, ownF_dat, wipeB_nil, wipeB_cons, backB_nil, backB_cons, getD_some', and_tt, v_lenS, v_ixS, seqOf_sq, gdU_true, retO_some, end_ret, end_next, end_exc, ioS_io, ioS_dat, ioS_fn, ioS_exc, ioS_scr, ioOf_io, ioOf_dat, ioOf_fn, ioOf_exc, ioOf_scr, isIo_io, isIo_dat, isIo_fn, isIo_exc, isIo_scr, beq_self_eq_true, gdO_true, v_add, v_addL, v_addT, v_sub, v_mul, v_mulL, v_mulT, v_fdiv, v_mod, v_pow, v_lt, v_le, v_gt, v_ge, v_eq, v_ne, v_ixL, v_ixT, v_lenL, v_lenT, v_tupL, v_tupT, v_lstL, v_lstT, v_sum, v_sumT, v_all, v_any, v_neg, v_isN, v_notN, v_isT, v_notT, v_max, v_min, map_some', plain_one, isTys_one, List.getElem?_cons_zero, List.getElem?_cons_succ, List.set_cons_zero, List.set_cons_succ, List.cons_append, List.nil_append, List.map_cons, List.map_nil, arB, e_slcB, e_inRng, e_callV, e_callS, fnB_fn, i_wip, s_wipe, s_try, try_ret, try_exc, outR_ok, s_while, v_repr, v_revL, v_revT, v_intB, v_isF, v_notF, v_nil, cutT, cutL, cutN, cutS, cutD_list, List.replicate_succ, List.replicate_zero]
  rfl
end
end Fc

namespace Fc
open PySem
theorem eqvAll_ints : ∀ (a b : List Int), PyData.eqvAll (a.map PyData.int) (b.map PyData.int) = decide (a = b)
  | [], [] => by rw [List.map_nil, PyData.eqvAll]; rfl
  | [], _ :: _ => by rw [List.map_nil, List.map_cons, PyData.eqvAll]; rfl
  | _ :: _, [] => by rw [List.map_nil, List.map_cons, PyData.eqvAll]; rfl
  | x :: a, y :: b => by
    rw [List.map_cons, List.map_cons, PyData.eqvAll, eqvAll_ints a b, eqv_int]
    by_cases h1 : x = y
    · subst h1; by_cases h2 : a = b
      · subst h2; simp
      · rw [decide_eq_false h2, decide_eq_false (fun z => h2 (List.cons.inj z).2)]; simp
    · rw [decide_eq_false h1, decide_eq_false (fun z => h1 (List.cons.inj z).1)]; simp
theorem eqv_tupI (a b : List Int) : PyData.eqv (tupI a) (tupI b) = decide (a = b) := by
  unfold tupI
  rw [PyData.eqv]
  exact eqvAll_ints a b
theorem fit_tupI (n : Nat) (a : List Int) : fit (n + 1) (tupI a) = true := by
  show (a.map PyData.int).all (fit n) = true
  rw [List.all_map]
  exact List.all_eq_true.mpr fun x _ => fit_int n x
def isIntD : D → Bool
  | .int _ => true
  | _ => false
section
variable {P : Nat → Option Fd}
theorem p_is_whole (hP : P n_is_whole = some d_is_whole) (d : D) : Spec P 1 n_is_whole [.dat d] (.ok (.dat (.bool (isIntD d))) []) := by
  refine spec_of hP rfl fun K hK => ?_
  cases d <;> simp only [e_var, e_cst, e_gfn, e_op2, e_fn1, e_fn2, e_isi, e_and, e_or, e_not, e_ite, e_chain, e_lst, e_tup, e_emp, e_nil, e_cons, e_slcL, e_slcU, e_call, e_callIo, e_comp, e_compIf, i_of, i_rng1, i_rng2, i_enum, i_zip, s_nil, s_cons, s_set, s_unp, s_par, s_drop, s_ret, s_ite, s_for, s_raise, s_app, s_sti, t_C, t_If, t_F, look_dat, look_lst, look_dct, look_io, look_fn, look_exc, look_scr, ioCall_lst, ioCall_io, stB_lst, stB_io, seq_next, seq_ret, seq_exc, R.bind_ok, R.bind_exc, oR_some, oO_some, noX_ok, gd_true, br_true, br_false, tru_bool, intOf_int, ofO_some, ofS_some, ofOut_ok, ofOut_exc, op2_dat, op2_newL, op2_slot, opd_some, fn1_dat, fn1_newL, fn1_slot, fnd_some, fn1_scr, op2_scr', fn2_dat, peek_dat', peek_newL, peek_slot, pkB_lst, pkB_io, isi_dat, frz_dat, frz_newL, frz_newD, frz_slot, fzB_lst, frzs_nil, frzs_cons, args_nil, args_fn, args_scr, args_dat, args_newL, args_newD, args_slot, setB_eq, setO_un, setO_dat, setO_lst, setO_fn, setV_newL, setV_newD, setV_fn, setV_dat, setV_slot, setDs_nil, setDs_cons, setTg_name, setTg_names, seqOf_list, seqOf_tuple, tupOf_tuple, lstOf_lst, zipS_list, zipS_tuple, ownL_eq, ownB_lst, ownB_io, ofOutIo_ok, oioB_io, oioB_lst, retV_dat, retV_newL, retV_slot, rtB_lst, ownOk_nil, ownOk_cons, ownF_un, ownF_dat, wipeB_nil, wipeB_cons, backB_nil, backB_cons, getD_some', and_tt, v_lenS, v_ixS, seqOf_sq, gdU_true, retO_some, end_ret, end_next, end_exc, ioS_io, ioS_dat, ioS_fn, ioS_exc, ioS_scr, ioOf_io, ioOf_dat, ioOf_fn, ioOf_exc, ioOf_scr, isIo_io, isIo_dat, isIo_fn, isIo_exc, isIo_scr, beq_self_eq_true, gdO_true, v_add, v_addL, v_addT, v_sub, v_mul, v_mulL, v_mulT, v_fdiv, v_mod, v_pow, v_lt, v_le, v_gt, v_ge, v_eq, v_ne, v_ixL, v_ixT, v_lenL, v_lenT, v_tupL, v_tupT, v_lstL, v_lstT, v_sum, v_sumT, v_all, v_any, v_neg, v_isN, v_notN, v_isT, v_notT, v_max, v_min, map_some', plain_one, isTys_one, List.getElem?_cons_zero, List.getElem?_cons_succ, List.set_cons_zero, List.set_cons_succ, List.cons_append, List.nil_append, List.map_cons, List.map_nil, arB, e_slcB, e_inRng, e_callV, e_callS, fnB_fn, i_wip, s_wipe, s_try, try_ret, try_exc, outR_ok, s_while, v_repr, v_revL, v_revT, v_intB, v_isF, v_notF, v_nil, cutT, cutL, cutN, cutS, cutD_list, List.replicate_succ, List.replicate_zero, c_is_whole, plainTy, isTy, isIntD, Bool.not_true, Bool.not_false]
theorem p_is_upto (hP : P n_is_upto = some d_is_upto) (hw : P n_is_whole = some d_is_whole) (i lo hi : Int) : Spec P 2 n_is_upto [.dat (.int i), .dat (.int lo), .dat (.int hi)] (.ok (.dat (.bool (decide (lo ≤ i) && decide (i ≤ hi)))) []) := by
  refine spec_of hP rfl fun K hK => ?_
  have h1 := p_is_whole hw (.int i) K hK
  simp only [e_var, e_cst, e_gfn, e_op2, e_fn1, e_fn2, e_isi, e_and, e_or, e_not, e_ite, e_chain, e_lst, e_tup, e_emp, e_nil, e_cons, e_slcL, e_slcU, e_call, e_callIo, e_comp, e_compIf, i_of, i_rng1, i_rng2, i_enum, i_zip, s_nil, s_cons, s_set, s_unp, s_par, s_drop, s_ret, s_ite, s_for, s_raise, s_app, s_sti, t_C, t_If, t_F, look_dat, look_lst, look_dct, look_io, look_fn, look_exc, look_scr, ioCall_lst, ioCall_io, stB_lst, stB_io, seq_next, seq_ret, seq_exc, R.bind_ok, R.bind_exc, oR_some, oO_some, noX_ok, gd_true, br_true, br_false, tru_bool, intOf_int, ofO_some, ofS_some, ofOut_ok, ofOut_exc, op2_dat, op2_newL, op2_slot, opd_some, fn1_dat, fn1_newL, fn1_slot, fnd_some, fn1_scr, op2_scr', fn2_dat, peek_dat', peek_newL, peek_slot, pkB_lst, pkB_io, isi_dat, frz_dat, frz_newL, frz_newD, frz_slot, fzB_lst, frzs_nil, frzs_cons, args_nil, args_fn, args_scr, args_dat, args_newL, args_newD, args_slot, setB_eq, setO_un, setO_dat, setO_lst, setO_fn, setV_newL, setV_newD, setV_fn, setV_dat, setV_slot, setDs_nil, setDs_cons, setTg_name, setTg_names, seqOf_list, seqOf_tuple, tupOf_tuple, lstOf_lst, zipS_list, zipS_tuple, ownL_eq, ownB_lst, ownB_io, ofOutIo_ok, oioB_io, oioB_lst, retV_dat, retV_newL, retV_slot, rtB_lst, ownOk_nil, ownOk_cons, ownF_un, ownF_dat, wipeB_nil, wipeB_cons, backB_nil, backB_cons, getD_some', and_tt, v_lenS, v_ixS, seqOf_sq, gdU_true, retO_some, end_ret, end_next, end_exc, ioS_io, ioS_dat, ioS_fn, ioS_exc, ioS_scr, ioOf_io, ioOf_dat, ioOf_fn, ioOf_exc, ioOf_scr, isIo_io, isIo_dat, isIo_fn, isIo_exc, isIo_scr, beq_self_eq_true, gdO_true, v_add, v_addL, v_addT, v_sub, v_mul, v_mulL, v_mulT, v_fdiv, v_mod, v_pow, v_lt, v_le, v_gt, v_ge, v_eq, v_ne, v_ixL, v_ixT, v_lenL, v_lenT, v_tupL, v_tupT, v_lstL, v_lstT, v_sum, v_sumT, v_all, v_any, v_neg, v_isN, v_notN, v_isT, v_notT, v_max, v_min, map_some', plain_one, isTys_one, List.getElem?_cons_zero, List.getElem?_cons_succ, List.set_cons_zero, List.set_cons_succ, List.cons_append, List.nil_append, List.map_cons, List.map_nil, arB, e_slcB, e_inRng, e_callV, e_callS, fnB_fn, i_wip, s_wipe, s_try, try_ret, try_exc, outR_ok, s_while, v_repr, v_revL, v_revT, v_intB, v_isF, v_notF, v_nil, cutT, cutL, cutN, cutS, cutD_list, List.replicate_succ, List.replicate_zero, c_is_upto, h1, isIntD]
  by_cases h : lo ≤ i
  · simp only [e_var, e_cst, e_gfn, e_op2, e_fn1, e_fn2, e_isi, e_and, e_or, e_not, e_ite, e_chain, e_lst, e_tup, e_emp, e_nil, e_cons, e_slcL, e_slcU, e_call, e_callIo, e_comp, e_compIf, i_of, i_rng1, i_rng2, i_enum, i_zip, s_nil, s_cons, s_set, s_unp, s_par, s_drop, s_ret, s_ite, s_for, s_raise, s_app, s_sti, t_C, t_If, t_F, look_dat, look_lst, look_dct, look_io, look_fn, look_exc, look_scr, ioCall_lst, ioCall_io, stB_lst, stB_io, seq_next, seq_ret, seq_exc, R.bind_ok, R.bind_exc, oR_some, oO_some, noX_ok, gd_true, br_true, br_false, tru_bool, intOf_int, ofO_some, ofS_some, ofOut_ok, ofOut_exc, op2_dat, op2_newL, op2_slot, opd_some, fn1_dat, fn1_newL, fn1_slot, fnd_some, fn1_scr, op2_scr', fn2_dat, peek_dat', peek_newL, peek_slot, pkB_lst, pkB_io, isi_dat, frz_dat, frz_newL, frz_newD, frz_slot, fzB_lst, frzs_nil, frzs_cons, args_nil, args_fn, args_scr, args_dat, args_newL, args_newD, args_slot, setB_eq, setO_un, setO_dat, setO_lst, setO_fn, setV_newL, setV_newD, setV_fn, setV_dat, setV_slot, setDs_nil, setDs_cons, setTg_name, setTg_names, seqOf_list, seqOf_tuple, tupOf_tuple, lstOf_lst, zipS_list, zipS_tuple, ownL_eq, ownB_lst, ownB_io, ofOutIo_ok, oioB_io, oioB_lst, retV_dat, retV_newL, retV_slot, rtB_lst, ownOk_nil, ownOk_cons, ownF_un, ownF_dat, wipeB_nil, wipeB_cons, backB_nil, backB_cons, getD_some', and_tt, v_lenS, v_ixS, seqOf_sq, gdU_true, retO_some, end_ret, end_next, end_exc, ioS_io, ioS_dat, ioS_fn, ioS_exc, ioS_scr, ioOf_io, ioOf_dat, ioOf_fn, ioOf_exc, ioOf_scr, isIo_io, isIo_dat, isIo_fn, isIo_exc, isIo_scr, beq_self_eq_true, gdO_true, v_add, v_addL, v_addT, v_sub, v_mul, v_mulL, v_mulT, v_fdiv, v_mod, v_pow, v_lt, v_le, v_gt, v_ge, v_eq, v_ne, v_ixL, v_ixT, v_lenL, v_lenT, v_tupL, v_tupT, v_lstL, v_lstT, v_sum, v_sumT, v_all, v_any, v_neg, v_isN, v_notN, v_isT, v_notT, v_max, v_min, map_some', plain_one, isTys_one, List.getElem?_cons_zero, List.getElem?_cons_succ, List.set_cons_zero, List.set_cons_succ, List.cons_append, List.nil_append, List.map_cons, List.map_nil, arB, e_slcB, e_inRng, e_callV, e_callS, fnB_fn, i_wip, s_wipe, s_try, try_ret, try_exc, outR_ok, s_while, v_repr, v_revL, v_revT, v_intB, v_isF, v_notF, v_nil, cutT, cutL, cutN, cutS, cutD_list, List.replicate_succ, List.replicate_zero, h, decide_true, Bool.true_and]
  · simp only [e_var, e_cst, e_gfn, e_op2, e_fn1, e_fn2, e_isi, e_and, e_or, e_not, e_ite, e_chain, e_lst, e_tup, e_emp, e_nil, e_cons, e_slcL, e_slcU, e_call, e_callIo, e_comp, e_compIf, i_of, i_rng1, i_rng2, i_enum, i_zip, s_nil, s_cons, s_set, s_unp, s_par, s_drop, s_ret, s_ite, s_for, s_raise, s_app, s_sti, t_C, t_If, t_F, look_dat, look_lst, look_dct, look_io, look_fn, look_exc, look_scr, ioCall_lst, ioCall_io, stB_lst, stB_io, seq_next, seq_ret, seq_exc, R.bind_ok, R.bind_exc, oR_some, oO_some, noX_ok, gd_true, br_true, br_false, tru_bool, intOf_int, ofO_some, ofS_some, ofOut_ok, ofOut_exc, op2_dat, op2_newL, op2_slot, opd_some, fn1_dat, fn1_newL, fn1_slot, fnd_some, fn1_scr, op2_scr', fn2_dat, peek_dat', peek_newL, peek_slot, pkB_lst, pkB_io, isi_dat, frz_dat, frz_newL, frz_newD, frz_slot, fzB_lst, frzs_nil, frzs_cons, args_nil, args_fn, args_scr, args_dat, args_newL, args_newD, args_slot, setB_eq, setO_un, setO_dat, setO_lst, setO_fn, setV_newL, setV_newD, setV_fn, setV_dat, setV_slot, setDs_nil, setDs_cons, setTg_name, setTg_names, seqOf_list, seqOf_tuple, tupOf_tuple, lstOf_lst, zipS_list, zipS_tuple, ownL_eq, ownB_lst, ownB_io, ofOutIo_ok, oioB_io, oioB_lst, retV_dat, retV_newL, retV_slot, rtB_lst, ownOk_nil, ownOk_cons, ownF_un, ownF_dat, wipeB_nil, wipeB_cons, backB_nil, backB_cons, getD_some', and_tt, v_lenS, v_ixS, seqOf_sq, gdU_true, retO_some, end_ret, end_next, end_exc, ioS_io, ioS_dat, ioS_fn, ioS_exc, ioS_scr, ioOf_io, ioOf_dat, ioOf_fn, ioOf_exc, ioOf_scr, isIo_io, isIo_dat, isIo_fn, isIo_exc, isIo_scr, beq_self_eq_true, gdO_true, v_add, v_addL, v_addT, v_sub, v_mul, v_mulL, v_mulT, v_fdiv, v_mod, v_pow, v_lt, v_le, v_gt, v_ge, v_eq, v_ne, v_ixL, v_ixT, v_lenL, v_lenT, v_tupL, v_tupT, v_lstL, v_lstT, v_sum, v_sumT, v_all, v_any, v_neg, v_isN, v_notN, v_isT, v_notT, v_max, v_min, map_some', plain_one, isTys_one, List.getElem?_cons_zero, List.getElem?_cons_succ, List.set_cons_zero, List.set_cons_succ, List.cons_append, List.nil_append, List.map_cons, List.map_nil, arB, e_slcB, e_inRng, e_callV, e_callS, fnB_fn, i_wip, s_wipe, s_try, try_ret, try_exc, outR_ok, s_while, v_repr, v_revL, v_revT, v_intB, v_isF, v_notF, v_nil, cutT, cutL, cutN, cutS, cutD_list, List.replicate_succ, List.replicate_zero, h, decide_false, Bool.false_and]
/-- all items are whole numbers -/
theorem p_are_numbers (hP : P n_are_numbers = some d_are_numbers) (hw : P n_is_whole = some d_is_whole) (xs : List D) (m : Int) : Spec P 2 n_are_numbers [.dat (.tuple xs), .dat (.int m)] (.ok (.dat (.bool (decide ((xs.length : Int) = m) && xs.all isIntD))) []) := by
  refine spec_of hP rfl fun K hK => ?_
  simp only [e_var, e_cst, e_gfn, e_op2, e_fn1, e_fn2, e_isi, e_and, e_or, e_not, e_ite, e_chain, e_lst, e_tup, e_emp, e_nil, e_cons, e_slcL, e_slcU, e_call, e_callIo, e_comp, e_compIf, i_of, i_rng1, i_rng2, i_enum, i_zip, s_nil, s_cons, s_set, s_unp, s_par, s_drop, s_ret, s_ite, s_for, s_raise, s_app, s_sti, t_C, t_If, t_F, look_dat, look_lst, look_dct, look_io, look_fn, look_exc, look_scr, ioCall_lst, ioCall_io, stB_lst, stB_io, seq_next, seq_ret, seq_exc, R.bind_ok, R.bind_exc, oR_some, oO_some, noX_ok, gd_true, br_true, br_false, tru_bool, intOf_int, ofO_some, ofS_some, ofOut_ok, ofOut_exc, op2_dat, op2_newL, op2_slot, opd_some, fn1_dat, fn1_newL, fn1_slot, fnd_some, fn1_scr, op2_scr', fn2_dat, peek_dat', peek_newL, peek_slot, pkB_lst, pkB_io, isi_dat, frz_dat, frz_newL, frz_newD, frz_slot, fzB_lst, frzs_nil, frzs_cons, args_nil, args_fn, args_scr, args_dat, args_newL, args_newD, args_slot, setB_eq, setO_un, setO_dat, setO_lst, setO_fn, setV_newL, setV_newD, setV_fn, setV_dat, setV_slot, setDs_nil, setDs_cons, setTg_name, setTg_names, seqOf_list, seqOf_tuple, tupOf_tuple, lstOf_lst, zipS_list, zipS_tuple, ownL_eq, ownB_lst, ownB_io, ofOutIo_ok, oioB_io, oioB_lst, retV_dat, retV_newL, retV_slot, rtB_lst, ownOk_nil, ownOk_cons, ownF_un, ownF_dat, wipeB_nil, wipeB_cons, backB_nil, backB_cons, getD_some', and_tt, v_lenS, v_ixS, seqOf_sq, gdU_true, retO_some, end_ret, end_next, end_exc, ioS_io, ioS_dat, ioS_fn, ioS_exc, ioS_scr, ioOf_io, ioOf_dat, ioOf_fn, ioOf_exc, ioOf_scr, isIo_io, isIo_dat, isIo_fn, isIo_exc, isIo_scr, beq_self_eq_true, gdO_true, v_add, v_addL, v_addT, v_sub, v_mul, v_mulL, v_mulT, v_fdiv, v_mod, v_pow, v_lt, v_le, v_gt, v_ge, v_eq, v_ne, v_ixL, v_ixT, v_lenL, v_lenT, v_tupL, v_tupT, v_lstL, v_lstT, v_sum, v_sumT, v_all, v_any, v_neg, v_isN, v_notN, v_isT, v_notT, v_max, v_min, map_some', plain_one, isTys_one, List.getElem?_cons_zero, List.getElem?_cons_succ, List.set_cons_zero, List.set_cons_succ, List.cons_append, List.nil_append, List.map_cons, List.map_nil, arB, e_slcB, e_inRng, e_callV, e_callS, fnB_fn, i_wip, s_wipe, s_try, try_ret, try_exc, outR_ok, s_while, v_repr, v_revL, v_revT, v_intB, v_isF, v_notF, v_nil, cutT, cutL, cutN, cutS, cutD_list, List.replicate_succ, List.replicate_zero, c_are_numbers, plainTy, isTy, fit_int, Bool.and_self, eqv_int]
  by_cases h : (xs.length : Int) = m
  · simp only [e_var, e_cst, e_gfn, e_op2, e_fn1, e_fn2, e_isi, e_and, e_or, e_not, e_ite, e_chain, e_lst, e_tup, e_emp, e_nil, e_cons, e_slcL, e_slcU, e_call, e_callIo, e_comp, e_compIf, i_of, i_rng1, i_rng2, i_enum, i_zip, s_nil, s_cons, s_set, s_unp, s_par, s_drop, s_ret, s_ite, s_for, s_raise, s_app, s_sti, t_C, t_If, t_F, look_dat, look_lst, look_dct, look_io, look_fn, look_exc, look_scr, ioCall_lst, ioCall_io, stB_lst, stB_io, seq_next, seq_ret, seq_exc, R.bind_ok, R.bind_exc, oR_some, oO_some, noX_ok, gd_true, br_true, br_false, tru_bool, intOf_int, ofO_some, ofS_some, ofOut_ok, ofOut_exc, op2_dat, op2_newL, op2_slot, opd_some, fn1_dat, fn1_newL, fn1_slot, fnd_some, fn1_scr, op2_scr', fn2_dat, peek_dat', peek_newL, peek_slot, pkB_lst, pkB_io, isi_dat, frz_dat, frz_newL, frz_newD, frz_slot, fzB_lst, frzs_nil, frzs_cons, args_nil, args_fn, args_scr, args_dat, args_newL, args_newD, args_slot, setB_eq, setO_un, setO_dat, setO_lst, setO_fn, setV_newL, setV_newD, setV_fn, setV_dat, setV_slot, setDs_nil, setDs_cons, setTg_name, setTg_names, seqOf_list, seqOf_tuple, tupOf_tuple, lstOf_lst, zipS_list, zipS_tuple, ownL_eq, ownB_lst, ownB_io, ofOutIo_ok, oioB_io, oioB_lst, retV_dat, retV_newL, retV_slot, rtB_lst, ownOk_nil, ownOk_cons, ownF_un, ownF_dat, wipeB_nil, wipeB_cons, backB_nil, backB_cons, getD_some', and_tt, v_lenS, v_ixS, seqOf_sq, gdU_true, retO_some, end_ret, end_next, end_exc, ioS_io, ioS_dat, ioS_fn, ioS_exc, ioS_scr, ioOf_io, ioOf_dat, ioOf_fn, ioOf_exc, ioOf_scr, isIo_io, isIo_dat, isIo_fn, isIo_exc, isIo_scr, beq_self_eq_true, gdO_true, v_add, v_addL, v_addT, v_sub, v_mul, v_mulL, v_mulT, v_fdiv, v_mod, v_pow, v_lt, v_le, v_gt, v_ge, v_eq, v_ne, v_ixL, v_ixT, v_lenL, v_lenT, v_tupL, v_tupT, v_lstL, v_lstT, v_sum, v_sumT, v_all, v_any, v_neg, v_isN, v_notN, v_isT, v_notT, v_max, v_min, map_some', plain_one, isTys_one, List.getElem?_cons_zero, List.getElem?_cons_succ, List.set_cons_zero, List.set_cons_succ, List.cons_append, List.nil_append, List.map_cons, List.map_nil, arB, e_slcB, e_inRng, e_callV, e_callS, fnB_fn, i_wip, s_wipe, s_try, try_ret, try_exc, outR_ok, s_while, v_repr, v_revL, v_revT, v_intB, v_isF, v_notF, v_nil, cutT, cutL, cutN, cutS, cutD_list, List.replicate_succ, List.replicate_zero, h, decide_true, Bool.true_and]
    generalize hL : loopC _ _ _ _ = L
    have := comp_eq hL (fun d => .bool (isIntD d)) fun d _ => by
      have h1 := p_is_whole hw d K hK
      simp only [e_var, e_cst, e_gfn, e_op2, e_fn1, e_fn2, e_isi, e_and, e_or, e_not, e_ite, e_chain, e_lst, e_tup, e_emp, e_nil, e_cons, e_slcL, e_slcU, e_call, e_callIo, e_comp, e_compIf, i_of, i_rng1, i_rng2, i_enum, i_zip, s_nil, s_cons, s_set, s_unp, s_par, s_drop, s_ret, s_ite, s_for, s_raise, s_app, s_sti, t_C, t_If, t_F, look_dat, look_lst, look_dct, look_io, look_fn, look_exc, look_scr, ioCall_lst, ioCall_io, stB_lst, stB_io, seq_next, seq_ret, seq_exc, R.bind_ok, R.bind_exc, oR_some, oO_some, noX_ok, gd_true, br_true, br_false, tru_bool, intOf_int, ofO_some, ofS_some, ofOut_ok, ofOut_exc, op2_dat, op2_newL, op2_slot, opd_some, fn1_dat, fn1_newL, fn1_slot, fnd_some, fn1_scr, op2_scr', fn2_dat, peek_dat', peek_newL, peek_slot, pkB_lst, pkB_io, isi_dat, frz_dat, frz_newL, frz_newD, frz_slot, fzB_lst, frzs_nil, frzs_cons, args_nil, args_fn, args_scr, args_dat, args_newL, args_newD, args_slot, setB_eq, setO_un, setO_dat, setO_lst, setO_fn, setV_newL, setV_newD, setV_fn, setV_dat, setV_slot, setDs_nil, setDs_cons, setTg_name, setTg_names, seqOf_list, seqOf_tuple, tupOf_tuple, lstOf_lst, zipS_list, zipS_tuple, ownL_eq, ownB_lst, ownB_io, ofOutIo_ok, oioB_io, oioB_lst, retV_dat, retV_newL, retV_slot, rtB_lst, ownOk_nil, ownOk_cons, ownF_un, ownF_dat, wipeB_nil, wipeB_cons, backB_nil, backB_cons, getD_some', and_tt, v_lenS, v_ixS, seqOf_sq, gdU_true, retO_some, end_ret, end_next, end_exc, ioS_io, ioS_dat, ioS_fn, ioS_exc, ioS_scr, ioOf_io, ioOf_dat, ioOf_fn, ioOf_exc, ioOf_scr, isIo_io, isIo_dat, isIo_fn, isIo_exc, isIo_scr, beq_self_eq_true, gdO_true, v_add, v_addL, v_addT, v_sub, v_mul, v_mulL, v_mulT, v_fdiv, v_mod, v_pow, v_lt, v_le, v_gt, v_ge, v_eq, v_ne, v_ixL, v_ixT, v_lenL, v_lenT, v_tupL, v_tupT, v_lstL, v_lstT, v_sum, v_sumT, v_all, v_any, v_neg, v_isN, v_notN, v_isT, v_notT, v_max, v_min, map_some', plain_one, isTys_one, List.getElem?_cons_zero, List.getElem?_cons_succ, List.set_cons_zero, List.set_cons_succ, List.cons_append, List.nil_append, List.map_cons, List.map_nil, arB, e_slcB, e_inRng, e_callV, e_callS, fnB_fn, i_wip, s_wipe, s_try, try_ret, try_exc, outR_ok, s_while, v_repr, v_revL, v_revT, v_intB, v_isF, v_notF, v_nil, cutT, cutL, cutN, cutS, cutD_list, List.replicate_succ, List.replicate_zero, h1]
    subst this
    simp only [e_var, e_cst, e_gfn, e_op2, e_fn1, e_fn2, e_isi, e_and, e_or, e_not, e_ite, e_chain, e_lst, e_tup, e_emp, e_nil, e_cons, e_slcL, e_slcU, e_call, e_callIo, e_comp, e_compIf, i_of, i_rng1, i_rng2, i_enum, i_zip, s_nil, s_cons, s_set, s_unp, s_par, s_drop, s_ret, s_ite, s_for, s_raise, s_app, s_sti, t_C, t_If, t_F, look_dat, look_lst, look_dct, look_io, look_fn, look_exc, look_scr, ioCall_lst, ioCall_io, stB_lst, stB_io, seq_next, seq_ret, seq_exc, R.bind_ok, R.bind_exc, oR_some, oO_some, noX_ok, gd_true, br_true, br_false, tru_bool, intOf_int, ofO_some, ofS_some, ofOut_ok, ofOut_exc, op2_dat, op2_newL, op2_slot, opd_some, fn1_dat, fn1_newL, fn1_slot, fnd_some, fn1_scr, op2_scr', fn2_dat, peek_dat', peek_newL, peek_slot, pkB_lst, pkB_io, isi_dat, frz_dat, frz_newL, frz_newD, frz_slot, fzB_lst, frzs_nil, frzs_cons, args_nil, args_fn, args_scr, args_dat, args_newL, args_newD, args_slot, setB_eq, setO_un, setO_dat, setO_lst, setO_fn, setV_newL, setV_newD, setV_fn, setV_dat, setV_slot, setDs_nil, setDs_cons, setTg_name, setTg_names, seqOf_list, seqOf_tuple, tupOf_tuple, lstOf_lst, zipS_list, zipS_tuple, ownL_eq, ownB_lst, ownB_io, ofOutIo_ok, oioB_io, oioB_lst, retV_dat, retV_newL, retV_slot, rtB_lst, ownOk_nil, ownOk_cons, ownF_un, ownF_dat, wipeB_nil, wipeB_cons, backB_nil, backB_cons, getD_some', and_tt, v_lenS, v_ixS, seqOf_sq, gdU_true, retO_some, end_ret, end_next, end_exc, ioS_io, ioS_dat, ioS_fn, ioS_exc, ioS_scr, ioOf_io, ioOf_dat, ioOf_fn, ioOf_exc, ioOf_scr, isIo_io, isIo_dat, isIo_fn, isIo_exc, isIo_scr, beq_self_eq_true, gdO_true, v_add, v_addL, v_addT, v_sub, v_mul, v_mulL, v_mulT, v_fdiv, v_mod, v_pow, v_lt, v_le, v_gt, v_ge, v_eq, v_ne, v_ixL, v_ixT, v_lenL, v_lenT, v_tupL, v_tupT, v_lstL, v_lstT, v_sum, v_sumT, v_all, v_any, v_neg, v_isN, v_notN, v_isT, v_notT, v_max, v_min, map_some', plain_one, isTys_one, List.getElem?_cons_zero, List.getElem?_cons_succ, List.set_cons_zero, List.set_cons_succ, List.cons_append, List.nil_append, List.map_cons, List.map_nil, arB, e_slcB, e_inRng, e_callV, e_callS, fnB_fn, i_wip, s_wipe, s_try, try_ret, try_exc, outR_ok, s_while, v_repr, v_revL, v_revT, v_intB, v_isF, v_notF, v_nil, cutT, cutL, cutN, cutS, cutD_list, List.replicate_succ, List.replicate_zero]
    rw [show (xs.map fun d => PyData.bool (isIntD d)) = (xs.map isIntD).map PyData.bool by rw [List.map_map]; rfl]
    simp only [e_var, e_cst, e_gfn, e_op2, e_fn1, e_fn2, e_isi, e_and, e_or, e_not, e_ite, e_chain, e_lst, e_tup, e_emp, e_nil, e_cons, e_slcL, e_slcU, e_call, e_callIo, e_comp, e_compIf, i_of, i_rng1, i_rng2, i_enum, i_zip, s_nil, s_cons, s_set, s_unp, s_par, s_drop, s_ret, s_ite, s_for, s_raise, s_app, s_sti, t_C, t_If, t_F, look_dat, look_lst, look_dct, look_io, look_fn, look_exc, look_scr, ioCall_lst, ioCall_io, stB_lst, stB_io, seq_next, seq_ret, seq_exc, R.bind_ok, R.bind_exc, oR_some, oO_some, noX_ok, gd_true, br_true, br_false, tru_bool, intOf_int, ofO_some, ofS_some, ofOut_ok, ofOut_exc, op2_dat, op2_newL, op2_slot, opd_some, fn1_dat, fn1_newL, fn1_slot, fnd_some, fn1_scr, op2_scr', fn2_dat, peek_dat', peek_newL, peek_slot, pkB_lst, pkB_io, isi_dat, frz_dat, frz_newL, frz_newD, frz_slot, fzB_lst, frzs_nil, frzs_cons, args_nil, args_fn, args_scr, args_dat, args_newL, args_newD, args_slot, setB_eq, setO_un, setO_dat, setO_lst, setO_fn, setV_newL, setV_newD, setV_fn, setV_dat, setV_slot, setDs_nil, setDs_cons, setTg_name, setTg_names, seqOf_list, seqOf_tuple, tupOf_tuple, lstOf_lst, zipS_list, zipS_tuple, ownL_eq, ownB_lst, ownB_io, ofOutIo_ok, oioB_io, oioB_lst, retV_dat, retV_newL, retV_slot, rtB_lst, ownOk_nil, ownOk_cons, ownF_un, ownF_dat, wipeB_nil, wipeB_cons, backB_nil, backB_cons, getD_some', and_tt, v_lenS, v_ixS, seqOf_sq, gdU_true, retO_some, end_ret, end_next, end_exc, ioS_io, ioS_dat, ioS_fn, ioS_exc, ioS_scr, ioOf_io, ioOf_dat, ioOf_fn, ioOf_exc, ioOf_scr, isIo_io, isIo_dat, isIo_fn, isIo_exc, isIo_scr, beq_self_eq_true, gdO_true, v_add, v_addL, v_addT, v_sub, v_mul, v_mulL, v_mulT, v_fdiv, v_mod, v_pow, v_lt, v_le, v_gt, v_ge, v_eq, v_ne, v_ixL, v_ixT, v_lenL, v_lenT, v_tupL, v_tupT, v_lstL, v_lstT, v_sum, v_sumT, v_all, v_any, v_neg, v_isN, v_notN, v_isT, v_notT, v_max, v_min, map_some', plain_one, isTys_one, List.getElem?_cons_zero, List.getElem?_cons_succ, List.set_cons_zero, List.set_cons_succ, List.cons_append, List.nil_append, List.map_cons, List.map_nil, arB, e_slcB, e_inRng, e_callV, e_callS, fnB_fn, i_wip, s_wipe, s_try, try_ret, try_exc, outR_ok, s_while, v_repr, v_revL, v_revT, v_intB, v_isF, v_notF, v_nil, cutT, cutL, cutN, cutS, cutD_list, List.replicate_succ, List.replicate_zero]
    rw [List.all_map]
    rfl
  · simp only [e_var, e_cst, e_gfn, e_op2, e_fn1, e_fn2, e_isi, e_and, e_or, e_not, e_ite, e_chain, e_lst, e_tup, e_emp, e_nil, e_cons, e_slcL, e_slcU, e_call, e_callIo, e_comp, e_compIf, i_of, i_rng1, i_rng2, i_enum, i_zip, s_nil, s_cons, s_set, s_unp, s_par, s_drop, s_ret, s_ite, s_for, s_raise, s_app, s_sti, t_C, t_If, t_F, look_dat, look_lst, look_dct, look_io, look_fn, look_exc, look_scr, ioCall_lst, ioCall_io, stB_lst, stB_io, seq_next, seq_ret, seq_exc, R.bind_ok, R.bind_exc, oR_some, oO_some, noX_ok, gd_true, br_true, br_false, tru_bool, intOf_int, ofO_some, ofS_some, ofOut_ok, ofOut_exc, op2_dat, op2_newL, op2_slot, opd_some, fn1_dat, fn1_newL, fn1_slot, fnd_some, fn1_scr, op2_scr', fn2_dat, peek_dat', peek_newL, peek_slot, pkB_lst, pkB_io, isi_dat, frz_dat, frz_newL, frz_newD, frz_slot, fzB_lst, frzs_nil, frzs_cons, args_nil, args_fn, args_scr, args_dat, args_newL, args_newD, args_slot, setB_eq, setO_un, setO_dat, setO_lst, setO_fn, setV_newL, setV_newD, setV_fn, setV_dat, setV_slot, setDs_nil, setDs_cons, setTg_name, setTg_names, seqOf_list, seqOf_tuple, tupOf_tuple, lstOf_lst, zipS_list, zipS_tuple, ownL_eq, ownB_lst, ownB_io, ofOutIo_ok, oioB_io, oioB_lst, retV_dat, retV_newL, retV_slot, rtB_lst, ownOk_nil, ownOk_cons, ownF_un, ownF_dat, wipeB_nil, wipeB_cons, backB_nil, backB_cons, getD_some', and_tt, v_lenS, v_ixS, seqOf_sq, gdU_true, retO_some, end_ret, end_next, end_exc, ioS_io, ioS_dat, ioS_fn, ioS_exc, ioS_scr, ioOf_io, ioOf_dat, ioOf_fn, ioOf_exc, ioOf_scr, isIo_io, isIo_dat, isIo_fn, isIo_exc, isIo_scr, beq_self_eq_true, gdO_true, v_add, v_addL, v_addT, v_sub, v_mul, v_mulL, v_mulT, v_fdiv, v_mod, v_pow, v_lt, v_le, v_gt, v_ge, v_eq, v_ne, v_ixL, v_ixT, v_lenL, v_lenT, v_tupL, v_tupT, v_lstL, v_lstT, v_sum, v_sumT, v_all, v_any, v_neg, v_isN, v_notN, v_isT, v_notT, v_max, v_min, map_some', plain_one, isTys_one, List.getElem?_cons_zero, List.getElem?_cons_succ, List.set_cons_zero, List.set_cons_succ, List.cons_append, List.nil_append, List.map_cons, List.map_nil, arB, e_slcB, e_inRng, e_callV, e_callS, fnB_fn, i_wip, s_wipe, s_try, try_ret, try_exc, outR_ok, s_while, v_repr, v_revL, v_revT, v_intB, v_isF, v_notF, v_nil, cutT, cutL, cutN, cutS, cutD_list, List.replicate_succ, List.replicate_zero, h, decide_false, Bool.false_and]
theorem all_int (ns : List Int) : (ns.map PyData.int).all isIntD = true := by
  rw [List.all_map]
  exact List.all_eq_true.mpr fun _ _ => rfl
theorem p_is_row (hP : P n_is_row = some d_is_row) (hn : P n_are_numbers = some d_are_numbers) (hw : P n_is_whole = some d_is_whole) (xs : List D) : Spec P 3 n_is_row [.dat (.tuple xs)] (.ok (.dat (.bool (decide (1 ≤ xs.length) && decide (xs.length ≤ 12) && xs.all isIntD))) []) := by
  refine spec_of hP rfl fun K hK => ?_
  have h1 := p_are_numbers hn hw xs xs.length K hK
  simp only [e_var, e_cst, e_gfn, e_op2, e_fn1, e_fn2, e_isi, e_and, e_or, e_not, e_ite, e_chain, e_lst, e_tup, e_emp, e_nil, e_cons, e_slcL, e_slcU, e_call, e_callIo, e_comp, e_compIf, i_of, i_rng1, i_rng2, i_enum, i_zip, s_nil, s_cons, s_set, s_unp, s_par, s_drop, s_ret, s_ite, s_for, s_raise, s_app, s_sti, t_C, t_If, t_F, look_dat, look_lst, look_dct, look_io, look_fn, look_exc, look_scr, ioCall_lst, ioCall_io, stB_lst, stB_io, seq_next, seq_ret, seq_exc, R.bind_ok, R.bind_exc, oR_some, oO_some, noX_ok, gd_true, br_true, br_false, tru_bool, intOf_int, ofO_some, ofS_some, ofOut_ok, ofOut_exc, op2_dat, op2_newL, op2_slot, opd_some, fn1_dat, fn1_newL, fn1_slot, fnd_some, fn1_scr, op2_scr', fn2_dat, peek_dat', peek_newL, peek_slot, pkB_lst, pkB_io, isi_dat, frz_dat, frz_newL, frz_newD, frz_slot, fzB_lst, frzs_nil, frzs_cons, args_nil, args_fn, args_scr, args_dat, args_newL, args_newD, args_slot, setB_eq, setO_un, setO_dat, setO_lst, setO_fn, setV_newL, setV_newD, setV_fn, setV_dat, setV_slot, setDs_nil, setDs_cons, setTg_name, setTg_names, seqOf_list, seqOf_tuple, tupOf_tuple, lstOf_lst, zipS_list, zipS_tuple, ownL_eq, ownB_lst, ownB_io, ofOutIo_ok, oioB_io, oioB_lst, retV_dat, retV_newL, retV_slot, rtB_lst, ownOk_nil, ownOk_cons, ownF_un, ownF_dat, wipeB_nil, wipeB_cons, backB_nil, backB_cons, getD_some', and_tt, v_lenS, v_ixS, seqOf_sq, gdU_true, retO_some, end_ret, end_next, end_exc, ioS_io, ioS_dat, ioS_fn, ioS_exc, ioS_scr, ioOf_io, ioOf_dat, ioOf_fn, ioOf_exc, ioOf_scr, isIo_io, isIo_dat, isIo_fn, isIo_exc, isIo_scr, beq_self_eq_true, gdO_true, v_add, v_addL, v_addT, v_sub, v_mul, v_mulL, v_mulT, v_fdiv, v_mod, v_pow, v_lt, v_le, v_gt, v_ge, v_eq, v_ne, v_ixL, v_ixT, v_lenL, v_lenT, v_tupL, v_tupT, v_lstL, v_lstT, v_sum, v_sumT, v_all, v_any, v_neg, v_isN, v_notN, v_isT, v_notT, v_max, v_min, map_some', plain_one, isTys_one, List.getElem?_cons_zero, List.getElem?_cons_succ, List.set_cons_zero, List.set_cons_succ, List.cons_append, List.nil_append, List.map_cons, List.map_nil, arB, e_slcB, e_inRng, e_callV, e_callS, fnB_fn, i_wip, s_wipe, s_try, try_ret, try_exc, outR_ok, s_while, v_repr, v_revL, v_revT, v_intB, v_isF, v_notF, v_nil, cutT, cutL, cutN, cutS, cutD_list, List.replicate_succ, List.replicate_zero, c_is_row, plainTy, isTy]
  by_cases g1 : 1 ≤ xs.length
  · have g1' : (1 : Int) ≤ xs.length := by omega
    simp only [e_var, e_cst, e_gfn, e_op2, e_fn1, e_fn2, e_isi, e_and, e_or, e_not, e_ite, e_chain, e_lst, e_tup, e_emp, e_nil, e_cons, e_slcL, e_slcU, e_call, e_callIo, e_comp, e_compIf, i_of, i_rng1, i_rng2, i_enum, i_zip, s_nil, s_cons, s_set, s_unp, s_par, s_drop, s_ret, s_ite, s_for, s_raise, s_app, s_sti, t_C, t_If, t_F, look_dat, look_lst, look_dct, look_io, look_fn, look_exc, look_scr, ioCall_lst, ioCall_io, stB_lst, stB_io, seq_next, seq_ret, seq_exc, R.bind_ok, R.bind_exc, oR_some, oO_some, noX_ok, gd_true, br_true, br_false, tru_bool, intOf_int, ofO_some, ofS_some, ofOut_ok, ofOut_exc, op2_dat, op2_newL, op2_slot, opd_some, fn1_dat, fn1_newL, fn1_slot, fnd_some, fn1_scr, op2_scr', fn2_dat, peek_dat', peek_newL, peek_slot, pkB_lst, pkB_io, isi_dat, frz_dat, frz_newL, frz_newD, frz_slot, fzB_lst, frzs_nil, frzs_cons, args_nil, args_fn, args_scr, args_dat, args_newL, args_newD, args_slot, setB_eq, setO_un, setO_dat, setO_lst, setO_fn, setV_newL, setV_newD, setV_fn, setV_dat, setV_slot, setDs_nil, setDs_cons, setTg_name, setTg_names, seqOf_list, seqOf_tuple, tupOf_tuple, lstOf_lst, zipS_list, zipS_tuple, ownL_eq, ownB_lst, ownB_io, ofOutIo_ok, oioB_io, oioB_lst, retV_dat, retV_newL, retV_slot, rtB_lst, ownOk_nil, ownOk_cons, ownF_un, ownF_dat, wipeB_nil, wipeB_cons, backB_nil, backB_cons, getD_some', and_tt, v_lenS, v_ixS, seqOf_sq, gdU_true, retO_some, end_ret, end_next, end_exc, ioS_io, ioS_dat, ioS_fn, ioS_exc, ioS_scr, ioOf_io, ioOf_dat, ioOf_fn, ioOf_exc, ioOf_scr, isIo_io, isIo_dat, isIo_fn, isIo_exc, isIo_scr, beq_self_eq_true, gdO_true, v_add, v_addL, v_addT, v_sub, v_mul, v_mulL, v_mulT, v_fdiv, v_mod, v_pow, v_lt, v_le, v_gt, v_ge, v_eq, v_ne, v_ixL, v_ixT, v_lenL, v_lenT, v_tupL, v_tupT, v_lstL, v_lstT, v_sum, v_sumT, v_all, v_any, v_neg, v_isN, v_notN, v_isT, v_notT, v_max, v_min, map_some', plain_one, isTys_one, List.getElem?_cons_zero, List.getElem?_cons_succ, List.set_cons_zero, List.set_cons_succ, List.cons_append, List.nil_append, List.map_cons, List.map_nil, arB, e_slcB, e_inRng, e_callV, e_callS, fnB_fn, i_wip, s_wipe, s_try, try_ret, try_exc, outR_ok, s_while, v_repr, v_revL, v_revT, v_intB, v_isF, v_notF, v_nil, cutT, cutL, cutN, cutS, cutD_list, List.replicate_succ, List.replicate_zero, g1, g1', decide_true, Bool.true_and]
    by_cases g2 : xs.length ≤ 12
    · have g2' : (xs.length : Int) ≤ 12 := by omega
      simp only [e_var, e_cst, e_gfn, e_op2, e_fn1, e_fn2, e_isi, e_and, e_or, e_not, e_ite, e_chain, e_lst, e_tup, e_emp, e_nil, e_cons, e_slcL, e_slcU, e_call, e_callIo, e_comp, e_compIf, i_of, i_rng1, i_rng2, i_enum, i_zip, s_nil, s_cons, s_set, s_unp, s_par, s_drop, s_ret, s_ite, s_for, s_raise, s_app, s_sti, t_C, t_If, t_F, look_dat, look_lst, look_dct, look_io, look_fn, look_exc, look_scr, ioCall_lst, ioCall_io, stB_lst, stB_io, seq_next, seq_ret, seq_exc, R.bind_ok, R.bind_exc, oR_some, oO_some, noX_ok, gd_true, br_true, br_false, tru_bool, intOf_int, ofO_some, ofS_some, ofOut_ok, ofOut_exc, op2_dat, op2_newL, op2_slot, opd_some, fn1_dat, fn1_newL, fn1_slot, fnd_some, fn1_scr, op2_scr', fn2_dat, peek_dat', peek_newL, peek_slot, pkB_lst, pkB_io, isi_dat, frz_dat, frz_newL, frz_newD, frz_slot, fzB_lst, frzs_nil, frzs_cons, args_nil, args_fn, args_scr, args_dat, args_newL, args_newD, args_slot, setB_eq, setO_un, setO_dat, setO_lst, setO_fn, setV_newL, setV_newD, setV_fn, setV_dat, setV_slot, setDs_nil, setDs_cons, setTg_name, setTg_names, seqOf_list, seqOf_tuple, tupOf_tuple, lstOf_lst, zipS_list, zipS_tuple, ownL_eq, ownB_lst, ownB_io, ofOutIo_ok, oioB_io, oioB_lst, retV_dat, retV_newL, retV_slot, rtB_lst, ownOk_nil, ownOk_cons, ownF_un, ownF_dat, wipeB_nil, wipeB_cons, backB_nil, backB_cons, getD_some', and_tt, v_lenS, v_ixS, seqOf_sq, gdU_true, retO_some, end_ret, end_next, end_exc, ioS_io, ioS_dat, ioS_fn, ioS_exc, ioS_scr, ioOf_io, ioOf_dat, ioOf_fn, ioOf_exc, ioOf_scr, isIo_io, isIo_dat, isIo_fn, isIo_exc, isIo_scr, beq_self_eq_true, gdO_true, v_add, v_addL, v_addT, v_sub, v_mul, v_mulL, v_mulT, v_fdiv, v_mod, v_pow, v_lt, v_le, v_gt, v_ge, v_eq, v_ne, v_ixL, v_ixT, v_lenL, v_lenT, v_tupL, v_tupT, v_lstL, v_lstT, v_sum, v_sumT, v_all, v_any, v_neg, v_isN, v_notN, v_isT, v_notT, v_max, v_min, map_some', plain_one, isTys_one, List.getElem?_cons_zero, List.getElem?_cons_succ, List.set_cons_zero, List.set_cons_succ, List.cons_append, List.nil_append, List.map_cons, List.map_nil, arB, e_slcB, e_inRng, e_callV, e_callS, fnB_fn, i_wip, s_wipe, s_try, try_ret, try_exc, outR_ok, s_while, v_repr, v_revL, v_revT, v_intB, v_isF, v_notF, v_nil, cutT, cutL, cutN, cutS, cutD_list, List.replicate_succ, List.replicate_zero, g2, g2', decide_true, Bool.true_and, h1]
    · have g2' : ¬ (xs.length : Int) ≤ 12 := by omega
      simp only [e_var, e_cst, e_gfn, e_op2, e_fn1, e_fn2, e_isi, e_and, e_or, e_not, e_ite, e_chain, e_lst, e_tup, e_emp, e_nil, e_cons, e_slcL, e_slcU, e_call, e_callIo, e_comp, e_compIf, i_of, i_rng1, i_rng2, i_enum, i_zip, s_nil, s_cons, s_set, s_unp, s_par, s_drop, s_ret, s_ite, s_for, s_raise, s_app, s_sti, t_C, t_If, t_F, look_dat, look_lst, look_dct, look_io, look_fn, look_exc, look_scr, ioCall_lst, ioCall_io, stB_lst, stB_io, seq_next, seq_ret, seq_exc, R.bind_ok, R.bind_exc, oR_some, oO_some, noX_ok, gd_true, br_true, br_false, tru_bool, intOf_int, ofO_some, ofS_some, ofOut_ok, ofOut_exc, op2_dat, op2_newL, op2_slot, opd_some, fn1_dat, fn1_newL, fn1_slot, fnd_some, fn1_scr, op2_scr', fn2_dat, peek_dat', peek_newL, peek_slot, pkB_lst, pkB_io, isi_dat, frz_dat, frz_newL, frz_newD, frz_slot, fzB_lst, frzs_nil, frzs_cons, args_nil, args_fn, args_scr, args_dat, args_newL, args_newD, args_slot, setB_eq, setO_un, setO_dat, setO_lst, setO_fn, setV_newL, setV_newD, setV_fn, setV_dat, setV_slot, setDs_nil, setDs_cons, setTg_name, setTg_names, seqOf_list, seqOf_tuple, tupOf_tuple, lstOf_lst, zipS_list, zipS_tuple, ownL_eq, ownB_lst, ownB_io, ofOutIo_ok, oioB_io, oioB_lst, retV_dat, retV_newL, retV_slot, rtB_lst, ownOk_nil, ownOk_cons, ownF_un, ownF_dat, wipeB_nil, wipeB_cons, backB_nil, backB_cons, getD_some', and_tt, v_lenS, v_ixS, seqOf_sq, gdU_true, retO_some, end_ret, end_next, end_exc, ioS_io, ioS_dat, ioS_fn, ioS_exc, ioS_scr, ioOf_io, ioOf_dat, ioOf_fn, ioOf_exc, ioOf_scr, isIo_io, isIo_dat, isIo_fn, isIo_exc, isIo_scr, beq_self_eq_true, gdO_true, v_add, v_addL, v_addT, v_sub, v_mul, v_mulL, v_mulT, v_fdiv, v_mod, v_pow, v_lt, v_le, v_gt, v_ge, v_eq, v_ne, v_ixL, v_ixT, v_lenL, v_lenT, v_tupL, v_tupT, v_lstL, v_lstT, v_sum, v_sumT, v_all, v_any, v_neg, v_isN, v_notN, v_isT, v_notT, v_max, v_min, map_some', plain_one, isTys_one, List.getElem?_cons_zero, List.getElem?_cons_succ, List.set_cons_zero, List.set_cons_succ, List.cons_append, List.nil_append, List.map_cons, List.map_nil, arB, e_slcB, e_inRng, e_callV, e_callS, fnB_fn, i_wip, s_wipe, s_try, try_ret, try_exc, outR_ok, s_while, v_repr, v_revL, v_revT, v_intB, v_isF, v_notF, v_nil, cutT, cutL, cutN, cutS, cutD_list, List.replicate_succ, List.replicate_zero, g2, g2', decide_false, Bool.false_and]
  · have g1' : ¬ (1 : Int) ≤ xs.length := by omega
    simp only [e_var, e_cst, e_gfn, e_op2, e_fn1, e_fn2, e_isi, e_and, e_or, e_not, e_ite, e_chain, e_lst, e_tup, e_emp, e_nil, e_cons, e_slcL, e_slcU, e_call, e_callIo, e_comp, e_compIf, i_of, i_rng1, i_rng2, i_enum, i_zip, s_nil, s_cons, s_set, s_unp, s_par, s_drop, s_ret, s_ite, s_for, s_raise, s_app, s_sti, t_C, t_If, t_F, look_dat, look_lst, look_dct, look_io, look_fn, look_exc, look_scr, ioCall_lst, ioCall_io, stB_lst, stB_io, seq_next, seq_ret, seq_exc, R.bind_ok, R.bind_exc, oR_some, oO_some, noX_ok, gd_true, br_true, br_false, tru_bool, intOf_int, ofO_some, ofS_some, ofOut_ok, ofOut_exc, op2_dat, op2_newL, op2_slot, opd_some, fn1_dat, fn1_newL, fn1_slot, fnd_some, fn1_scr, op2_scr', fn2_dat, peek_dat', peek_newL, peek_slot, pkB_lst, pkB_io, isi_dat, frz_dat, frz_newL, frz_newD, frz_slot, fzB_lst, frzs_nil, frzs_cons, args_nil, args_fn, args_scr, args_dat, args_newL, args_newD, args_slot, setB_eq, setO_un, setO_dat, setO_lst, setO_fn, setV_newL, setV_newD, setV_fn, setV_dat, setV_slot, setDs_nil, setDs_cons, setTg_name, setTg_names, seqOf_list, seqOf_tuple, tupOf_tuple, lstOf_lst, zipS_list, zipS_tuple, ownL_eq, ownB_lst, ownB_io, ofOutIo_ok, oioB_io, oioB_lst, retV_dat, retV_newL, retV_slot, rtB_lst, ownOk_nil, ownOk_cons, ownF_un, ownF_dat, wipeB_nil, wipeB_cons, backB_nil, backB_cons, getD_some', and_tt, v_lenS, v_ixS, seqOf_sq, gdU_true, retO_some, end_ret, end_next, end_exc, ioS_io, ioS_dat, ioS_fn, ioS_exc, ioS_scr, ioOf_io, ioOf_dat, ioOf_fn, ioOf_exc, ioOf_scr, isIo_io, isIo_dat, isIo_fn, isIo_exc, isIo_scr, beq_self_eq_true, gdO_true, v_add, v_addL, v_addT, v_sub, v_mul, v_mulL, v_mulT, v_fdiv, v_mod, v_pow, v_lt, v_le, v_gt, v_ge, v_eq, v_ne, v_ixL, v_ixT, v_lenL, v_lenT, v_tupL, v_tupT, v_lstL, v_lstT, v_sum, v_sumT, v_all, v_any, v_neg, v_isN, v_notN, v_isT, v_notT, v_max, v_min, map_some', plain_one, isTys_one, List.getElem?_cons_zero, List.getElem?_cons_succ, List.set_cons_zero, List.set_cons_succ, List.cons_append, List.nil_append, List.map_cons, List.map_nil, arB, e_slcB, e_inRng, e_callV, e_callS, fnB_fn, i_wip, s_wipe, s_try, try_ret, try_exc, outR_ok, s_while, v_repr, v_revL, v_revT, v_intB, v_isF, v_notF, v_nil, cutT, cutL, cutN, cutS, cutD_list, List.replicate_succ, List.replicate_zero, g1, g1', decide_false, Bool.false_and]
/-- of rows -/
def RowOk (ns : List Int) : Prop := 1 ≤ ns.length ∧ ns.length ≤ 12
theorem p_check_row (hP : P n_check_row = some d_check_row) (hr : P n_is_row = some d_is_row) (hn : P n_are_numbers = some d_are_numbers) (hw : P n_is_whole = some d_is_whole) {ns : List Int} (h : RowOk ns) : Spec P 4 n_check_row [.dat (tupI ns)] (.ok (.dat .none) []) := by
  refine spec_of hP rfl fun K hK => ?_
  have h1 := p_is_row hr hn hw (ns.map .int) K hK
  rw [List.length_map, all_int, decide_eq_true h.1, decide_eq_true h.2] at h1
  unfold tupI
  simp only [e_var, e_cst, e_gfn, e_op2, e_fn1, e_fn2, e_isi, e_and, e_or, e_not, e_ite, e_chain, e_lst, e_tup, e_emp, e_nil, e_cons, e_slcL, e_slcU, e_call, e_callIo, e_comp, e_compIf, i_of, i_rng1, i_rng2, i_enum, i_zip, s_nil, s_cons, s_set, s_unp, s_par, s_drop, s_ret, s_ite, s_for, s_raise, s_app, s_sti, t_C, t_If, t_F, look_dat, look_lst, look_dct, look_io, look_fn, look_exc, look_scr, ioCall_lst, ioCall_io, stB_lst, stB_io, seq_next, seq_ret, seq_exc, R.bind_ok, R.bind_exc, oR_some, oO_some, noX_ok, gd_true, br_true, br_false, tru_bool, intOf_int, ofO_some, ofS_some, ofOut_ok, ofOut_exc, op2_dat, op2_newL, op2_slot, opd_some, fn1_dat, fn1_newL, fn1_slot, fnd_some, fn1_scr, op2_scr', fn2_dat, peek_dat', peek_newL, peek_slot, pkB_lst, pkB_io, isi_dat, frz_dat, frz_newL, frz_newD, frz_slot, fzB_lst, frzs_nil, frzs_cons, args_nil, args_fn, args_scr, args_dat, args_newL, args_newD, args_slot, setB_eq, setO_un, setO_dat, setO_lst, setO_fn, setV_newL, setV_newD, setV_fn, setV_dat, setV_slot, setDs_nil, setDs_cons, setTg_name, setTg_names, seqOf_list, seqOf_tuple, tupOf_tuple, lstOf_lst, zipS_list, zipS_tuple, ownL_eq, ownB_lst, ownB_io, ofOutIo_ok, oioB_io, oioB_lst, retV_dat, retV_newL, retV_slot, rtB_lst, ownOk_nil, ownOk_cons, ownF_un, ownF_dat, wipeB_nil, wipeB_cons, backB_nil, backB_cons, getD_some', and_tt, v_lenS, v_ixS, seqOf_sq, gdU_true, retO_some, end_ret, end_next, end_exc, ioS_io, ioS_dat, ioS_fn, ioS_exc, ioS_scr, ioOf_io, ioOf_dat, ioOf_fn, ioOf_exc, ioOf_scr, isIo_io, isIo_dat, isIo_fn, isIo_exc, isIo_scr, beq_self_eq_true, gdO_true, v_add, v_addL, v_addT, v_sub, v_mul, v_mulL, v_mulT, v_fdiv, v_mod, v_pow, v_lt, v_le, v_gt, v_ge, v_eq, v_ne, v_ixL, v_ixT, v_lenL, v_lenT, v_tupL, v_tupT, v_lstL, v_lstT, v_sum, v_sumT, v_all, v_any, v_neg, v_isN, v_notN, v_isT, v_notT, v_max, v_min, map_some', plain_one, isTys_one, List.getElem?_cons_zero, List.getElem?_cons_succ, List.set_cons_zero, List.set_cons_succ, List.cons_append, List.nil_append, List.map_cons, List.map_nil, arB, e_slcB, e_inRng, e_callV, e_callS, fnB_fn, i_wip, s_wipe, s_try, try_ret, try_exc, outR_ok, s_while, v_repr, v_revL, v_revT, v_intB, v_isF, v_notF, v_nil, cutT, cutL, cutN, cutS, cutD_list, List.replicate_succ, List.replicate_zero, c_check_row, h1, Bool.and_self, Bool.not_true]
theorem p_turned_of (hP : P n_turned_of = some d_turned_of) (hb : P n_turned_by = some d_turned_by) (hw : P n_ways = some d_ways) {ns : List Int} {b : Nat} (h : RowOk ns) (hB : Bd b ns) (hb2 : b ≤ 9000) : Spec P 3 n_turned_of [.dat (tupI ns)] (.ok (.dat (tupI (trL (ns.length - 1 : Nat) ns))) []) := by
  refine spec_of hP rfl fun K hK => ?_
  have e : ((ns.length : Int) - 1) = ((ns.length - 1 : Nat) : Int) := by have := h.1; omega
  have h1 := p_turned_by hb hw (w := ((ns.length - 1 : Nat) : Int)) h.2 (by have := h.2; omega) hB hb2 K hK
  unfold tupI at h1 ⊢
  simp only [e_var, e_cst, e_gfn, e_op2, e_fn1, e_fn2, e_isi, e_and, e_or, e_not, e_ite, e_chain, e_lst, e_tup, e_emp, e_nil, e_cons, e_slcL, e_slcU, e_call, e_callIo, e_comp, e_compIf, i_of, i_rng1, i_rng2, i_enum, i_zip, s_nil, s_cons, s_set, s_unp, s_par, s_drop, s_ret, s_ite, s_for, s_raise, s_app, s_sti, t_C, t_If, t_F, look_dat, look_lst, look_dct, look_io, look_fn, look_exc, look_scr, ioCall_lst, ioCall_io, stB_lst, stB_io, seq_next, seq_ret, seq_exc, R.bind_ok, R.bind_exc, oR_some, oO_some, noX_ok, gd_true, br_true, br_false, tru_bool, intOf_int, ofO_some, ofS_some, ofOut_ok, ofOut_exc, op2_dat, op2_newL, op2_slot, opd_some, fn1_dat, fn1_newL, fn1_slot, fnd_some, fn1_scr, op2_scr', fn2_dat, peek_dat', peek_newL, peek_slot, pkB_lst, pkB_io, isi_dat, frz_dat, frz_newL, frz_newD, frz_slot, fzB_lst, frzs_nil, frzs_cons, args_nil, args_fn, args_scr, args_dat, args_newL, args_newD, args_slot, setB_eq, setO_un, setO_dat, setO_lst, setO_fn, setV_newL, setV_newD, setV_fn, setV_dat, setV_slot, setDs_nil, setDs_cons, setTg_name, setTg_names, seqOf_list, seqOf_tuple, tupOf_tuple, lstOf_lst, zipS_list, zipS_tuple, ownL_eq, ownB_lst, ownB_io, ofOutIo_ok, oioB_io, oioB_lst, retV_dat, retV_newL, retV_slot, rtB_lst, ownOk_nil, ownOk_cons, ownF_un, ownF_dat, wipeB_nil, wipeB_cons, backB_nil, backB_cons, getD_some', and_tt, v_lenS, v_ixS, seqOf_sq, gdU_true, retO_some, end_ret, end_next, end_exc, ioS_io, ioS_dat, ioS_fn, ioS_exc, ioS_scr, ioOf_io, ioOf_dat, ioOf_fn, ioOf_exc, ioOf_scr, isIo_io, isIo_dat, isIo_fn, isIo_exc, isIo_scr, beq_self_eq_true, gdO_true, v_add, v_addL, v_addT, v_sub, v_mul, v_mulL, v_mulT, v_fdiv, v_mod, v_pow, v_lt, v_le, v_gt, v_ge, v_eq, v_ne, v_ixL, v_ixT, v_lenL, v_lenT, v_tupL, v_tupT, v_lstL, v_lstT, v_sum, v_sumT, v_all, v_any, v_neg, v_isN, v_notN, v_isT, v_notT, v_max, v_min, map_some', plain_one, isTys_one, List.getElem?_cons_zero, List.getElem?_cons_succ, List.set_cons_zero, List.set_cons_succ, List.cons_append, List.nil_append, List.map_cons, List.map_nil, arB, e_slcB, e_inRng, e_callV, e_callS, fnB_fn, i_wip, s_wipe, s_try, try_ret, try_exc, outR_ok, s_while, v_repr, v_revL, v_revT, v_intB, v_isF, v_notF, v_nil, cutT, cutL, cutN, cutS, cutD_list, List.replicate_succ, List.replicate_zero, c_turned_of, List.length_map, e, h1]
theorem p_turned (hP : P n_turned = some d_turned) (hc : P n_check_row = some d_check_row) (hr : P n_is_row = some d_is_row) (hn : P n_are_numbers = some d_are_numbers) (hw : P n_is_whole = some d_is_whole) (ho : P n_turned_of = some d_turned_of) (hb : P n_turned_by = some d_turned_by) (hy : P n_ways = some d_ways)
    {ns : List Int} {b : Nat} (h : RowOk ns) (hB : Bd b ns) (hb2 : b ≤ 9000) : Spec P 5 n_turned [.dat (tupI ns)] (.ok (.dat (tupI (trL (ns.length - 1 : Nat) ns))) []) := by
  refine spec_of hP rfl fun K hK => ?_
  have h1 := p_check_row hc hr hn hw h K hK
  have h2 := p_turned_of ho hb hy h hB hb2 K (by omega)
  simp only [e_var, e_cst, e_gfn, e_op2, e_fn1, e_fn2, e_isi, e_and, e_or, e_not, e_ite, e_chain, e_lst, e_tup, e_emp, e_nil, e_cons, e_slcL, e_slcU, e_call, e_callIo, e_comp, e_compIf, i_of, i_rng1, i_rng2, i_enum, i_zip, s_nil, s_cons, s_set, s_unp, s_par, s_drop, s_ret, s_ite, s_for, s_raise, s_app, s_sti, t_C, t_If, t_F, look_dat, look_lst, look_dct, look_io, look_fn, look_exc, look_scr, ioCall_lst, ioCall_io, stB_lst, stB_io, seq_next, seq_ret, seq_exc, R.bind_ok, R.bind_exc, oR_some, oO_some, noX_ok, gd_true, br_true, br_false, tru_bool, intOf_int, ofO_some, ofS_some, ofOut_ok, ofOut_exc, op2_dat, op2_newL, op2_slot, opd_some, fn1_dat, fn1_newL, fn1_slot, fnd_some, fn1_scr, op2_scr', fn2_dat, peek_dat', peek_newL, peek_slot, pkB_lst, pkB_io, isi_dat, frz_dat, frz_newL, frz_newD, frz_slot, fzB_lst, frzs_nil, frzs_cons, args_nil, args_fn, args_scr, args_dat, args_newL, args_newD, args_slot, setB_eq, setO_un, setO_dat, setO_lst, setO_fn, setV_newL, setV_newD, setV_fn, setV_dat, setV_slot, setDs_nil, setDs_cons, setTg_name, setTg_names, seqOf_list, seqOf_tuple, tupOf_tuple, lstOf_lst, zipS_list, zipS_tuple, ownL_eq, ownB_lst, ownB_io, ofOutIo_ok, oioB_io, oioB_lst, retV_dat, retV_newL, retV_slot, rtB_lst, ownOk_nil, ownOk_cons, ownF_un, ownF_dat, wipeB_nil, wipeB_cons, backB_nil, backB_cons, getD_some', and_tt, v_lenS, v_ixS, seqOf_sq, gdU_true, retO_some, end_ret, end_next, end_exc, ioS_io, ioS_dat, ioS_fn, ioS_exc, ioS_scr, ioOf_io, ioOf_dat, ioOf_fn, ioOf_exc, ioOf_scr, isIo_io, isIo_dat, isIo_fn, isIo_exc, isIo_scr, beq_self_eq_true, gdO_true, v_add, v_addL, v_addT, v_sub, v_mul, v_mulL, v_mulT, v_fdiv, v_mod, v_pow, v_lt, v_le, v_gt, v_ge, v_eq, v_ne, v_ixL, v_ixT, v_lenL, v_lenT, v_tupL, v_tupT, v_lstL, v_lstT, v_sum, v_sumT, v_all, v_any, v_neg, v_isN, v_notN, v_isT, v_notT, v_max, v_min, map_some', plain_one, isTys_one, List.getElem?_cons_zero, List.getElem?_cons_succ, List.set_cons_zero, List.set_cons_succ, List.cons_append, List.nil_append, List.map_cons, List.map_nil, arB, e_slcB, e_inRng, e_callV, e_callS, fnB_fn, i_wip, s_wipe, s_try, try_ret, try_exc, outR_ok, s_while, v_repr, v_revL, v_revT, v_intB, v_isF, v_notF, v_nil, cutT, cutL, cutN, cutS, cutD_list, List.replicate_succ, List.replicate_zero, c_turned, h1, h2]
end
end Fc

namespace Fc
open PySem
theorem iota_mem {lo : Int} {n : Nat} {d : D} (h : d ∈ iotaI lo n) : ∃ i : Nat, d = .int (lo + i) ∧ i < n := by
  obtain ⟨i, hi, e⟩ := List.getElem_of_mem h
  have := iota_get (lo := lo) (n := n) (i := i) (d := d) (by rw [List.getElem?_eq_getElem hi, e])
  exact ⟨i, this.1, this.2⟩
theorem iota_map {lo : Int} {n : Nat} {f : D → D} {g : Nat → D} (h : ∀ i, i < n → f (.int (lo + (i : Nat))) = g i) : (iotaI lo n).map f = (List.range n).map g := by
  unfold iotaI
  rw [List.map_map]
  exact List.map_congr_left fun i hi => h i (List.mem_range.mp hi)
def bkT (ns : List Int) (k i : Nat) : Int := ns.getD i 0 * wys ((ns.length : Int) - 1 - (i : Int)) ((k : Int) - (i : Int))
def bk (ns : List Int) (k : Nat) : Int := sumR (k + 1) (bkT ns k)
def bkL (ns : List Int) : List Int := (List.range ns.length).map (bk ns)
section
variable {P : Nat → Option Fd}
theorem p_back_of (hP : P n_back_of = some d_back_of) (hw : P n_ways = some d_ways) {ns : List Int} {b : Nat} {q : Bool} (h1 : ns.length ≤ 12) (hb : Bd b ns) (hb2 : b ≤ 9000) :
    Spec P 2 n_back_of [.dat (sq q (ns.map .int))] (.ok (.dat (tupI (bkL ns))) []) := by
  refine spec_of hP rfl fun K hK => ?_
  have hr : rngOk (ns.length : Int) = true := rngOk_of' (by omega) (by omega)
  unfold tupI
  simp only [e_var, e_cst, e_gfn, e_op2, e_fn1, e_fn2, e_isi, e_and, e_or, e_not, e_ite, e_chain, e_lst, e_tup, e_emp, e_nil, e_cons, e_slcL, e_slcU, e_call, e_callIo, e_comp, e_compIf, i_of, i_rng1, i_rng2, i_enum, i_zip, s_nil, s_cons, s_set, s_unp, s_par, s_drop, s_ret, s_ite, s_for, s_raise, s_app, s_sti, t_C, t_If, t_F, look_dat, look_lst, look_dct, look_io, look_fn, look_exc, look_scr, ioCall_lst, ioCall_io, stB_lst, stB_io, seq_next, seq_ret, seq_exc, R.bind_ok, R.bind_exc, oR_some, oO_some, noX_ok, gd_true, br_true, br_false, tru_bool, intOf_int, ofO_some, ofS_some, ofOut_ok, ofOut_exc, op2_dat, op2_newL, op2_slot, opd_some, fn1_dat, fn1_newL, fn1_slot, fnd_some, fn1_scr, op2_scr', fn2_dat, peek_dat', peek_newL, peek_slot, pkB_lst, pkB_io, isi_dat, frz_dat, frz_newL, frz_newD, frz_slot, fzB_lst, frzs_nil, frzs_cons, args_nil, args_fn, args_scr, args_dat, args_newL, args_newD, args_slot, setB_eq, setO_un, setO_dat, setO_lst, setO_fn, setV_newL, setV_newD, setV_fn, setV_dat, setV_slot, setDs_nil, setDs_cons, setTg_name, setTg_names, seqOf_list, seqOf_tuple, tupOf_tuple, lstOf_lst, zipS_list, zipS_tuple, ownL_eq, ownB_lst, ownB_io, ofOutIo_ok, oioB_io, oioB_lst, retV_dat, retV_newL, retV_slot, rtB_lst, ownOk_nil, ownOk_cons, ownF_un, ownF_dat, wipeB_nil, wipeB_cons, backB_nil, backB_cons, getD_some', and_tt, v_lenS, v_ixS, seqOf_sq, gdU_true, retO_some, end_ret, end_next, end_exc, ioS_io, ioS_dat, ioS_fn, ioS_exc, ioS_scr, ioOf_io, ioOf_dat, ioOf_fn, ioOf_exc, ioOf_scr, isIo_io, isIo_dat, isIo_fn, isIo_exc, isIo_scr, beq_self_eq_true, gdO_true, v_add, v_addL, v_addT, v_sub, v_mul, v_mulL, v_mulT, v_fdiv, v_mod, v_pow, v_lt, v_le, v_gt, v_ge, v_eq, v_ne, v_ixL, v_ixT, v_lenL, v_lenT, v_tupL, v_tupT, v_lstL, v_lstT, v_sum, v_sumT, v_all, v_any, v_neg, v_isN, v_notN, v_isT, v_notT, v_max, v_min, map_some', plain_one, isTys_one, List.getElem?_cons_zero, List.getElem?_cons_succ, List.set_cons_zero, List.set_cons_succ, List.cons_append, List.nil_append, List.map_cons, List.map_nil, arB, e_slcB, e_inRng, e_callV, e_callS, fnB_fn, i_wip, s_wipe, s_try, try_ret, try_exc, outR_ok, s_while, v_repr, v_revL, v_revT, v_intB, v_isF, v_notF, v_nil, cutT, cutL, cutN, cutS, cutD_list, List.replicate_succ, List.replicate_zero, c_back_of, List.length_map, List.length_nil, lenOk_of' (Nat.zero_le _), hr, Int.toNat_natCast]
  generalize hL : loopF _ _ _ = L
  obtain ⟨s', rfl, qq⟩ := loop_eq hL (fun k s => k ≤ ns.length ∧ ∃ b2, s = [.dat (sq q (ns.map .int)), .lst (((List.range k).map (bk ns)).map .int), b2, .un] ∧ loose b2) ⟨Nat.zero_le _, .un, rfl, trivial⟩ (fun k x s hx hq => by
      obtain ⟨hk, b2, rfl, l2⟩ := hq
      obtain ⟨rfl, hlt⟩ := iota_get0 hx
      have hr2 : rngOk ((k : Int) + 1) = true := rngOk_of' (by omega) (by omega)
      simp only [e_var, e_cst, e_gfn, e_op2, e_fn1, e_fn2, e_isi, e_and, e_or, e_not, e_ite, e_chain, e_lst, e_tup, e_emp, e_nil, e_cons, e_slcL, e_slcU, e_call, e_callIo, e_comp, e_compIf, i_of, i_rng1, i_rng2, i_enum, i_zip, s_nil, s_cons, s_set, s_unp, s_par, s_drop, s_ret, s_ite, s_for, s_raise, s_app, s_sti, t_C, t_If, t_F, look_dat, look_lst, look_dct, look_io, look_fn, look_exc, look_scr, ioCall_lst, ioCall_io, stB_lst, stB_io, seq_next, seq_ret, seq_exc, R.bind_ok, R.bind_exc, oR_some, oO_some, noX_ok, gd_true, br_true, br_false, tru_bool, intOf_int, ofO_some, ofS_some, ofOut_ok, ofOut_exc, op2_dat, op2_newL, op2_slot, opd_some, fn1_dat, fn1_newL, fn1_slot, fnd_some, fn1_scr, op2_scr', fn2_dat, peek_dat', peek_newL, peek_slot, pkB_lst, pkB_io, isi_dat, frz_dat, frz_newL, frz_newD, frz_slot, fzB_lst, frzs_nil, frzs_cons, args_nil, args_fn, args_scr, args_dat, args_newL, args_newD, args_slot, setB_eq, setO_un, setO_dat, setO_lst, setO_fn, setV_newL, setV_newD, setV_fn, setV_dat, setV_slot, setDs_nil, setDs_cons, setTg_name, setTg_names, seqOf_list, seqOf_tuple, tupOf_tuple, lstOf_lst, zipS_list, zipS_tuple, ownL_eq, ownB_lst, ownB_io, ofOutIo_ok, oioB_io, oioB_lst, retV_dat, retV_newL, retV_slot, rtB_lst, ownOk_nil, ownOk_cons, ownF_un, ownF_dat, wipeB_nil, wipeB_cons, backB_nil, backB_cons, getD_some', and_tt, v_lenS, v_ixS, seqOf_sq, gdU_true, retO_some, end_ret, end_next, end_exc, ioS_io, ioS_dat, ioS_fn, ioS_exc, ioS_scr, ioOf_io, ioOf_dat, ioOf_fn, ioOf_exc, ioOf_scr, isIo_io, isIo_dat, isIo_fn, isIo_exc, isIo_scr, beq_self_eq_true, gdO_true, v_add, v_addL, v_addT, v_sub, v_mul, v_mulL, v_mulT, v_fdiv, v_mod, v_pow, v_lt, v_le, v_gt, v_ge, v_eq, v_ne, v_ixL, v_ixT, v_lenL, v_lenT, v_tupL, v_tupT, v_lstL, v_lstT, v_sum, v_sumT, v_all, v_any, v_neg, v_isN, v_notN, v_isT, v_notT, v_max, v_min, map_some', plain_one, isTys_one, List.getElem?_cons_zero, List.getElem?_cons_succ, List.set_cons_zero, List.set_cons_succ, List.cons_append, List.nil_append, List.map_cons, List.map_nil, arB, e_slcB, e_inRng, e_callV, e_callS, fnB_fn, i_wip, s_wipe, s_try, try_ret, try_exc, outR_ok, s_while, v_repr, v_revL, v_revT, v_intB, v_isF, v_notF, v_nil, cutT, cutL, cutN, cutS, cutD_list, List.replicate_succ, List.replicate_zero, setO_loose l2, hr2, show ((k : Int) + 1).toNat = k + 1 by omega]
      generalize hM : loopC _ _ _ _ = M
      have := comp_eq hM (fun d => match d with
        | .int i => .int (bkT ns k i.toNat)
        | d => d) fun d hd => by
          obtain ⟨i, rfl, hi⟩ := iota_mem hd
          rw [Int.zero_add]
          have hil : i < ns.length := by omega
          have hw1 := p_ways hw (n := (ns.length : Int) - 1 - (i : Int)) (m := (k : Int) - (i : Int)) (by omega) (by omega) (by omega) K hK
          have hm1 := mulOk_bd (n := (ns.length : Int) - 1 - (i : Int)) (m := (k : Int) - (i : Int)) hb hb2 hil (by omega) (by omega)
          simp only [e_var, e_cst, e_gfn, e_op2, e_fn1, e_fn2, e_isi, e_and, e_or, e_not, e_ite, e_chain, e_lst, e_tup, e_emp, e_nil, e_cons, e_slcL, e_slcU, e_call, e_callIo, e_comp, e_compIf, i_of, i_rng1, i_rng2, i_enum, i_zip, s_nil, s_cons, s_set, s_unp, s_par, s_drop, s_ret, s_ite, s_for, s_raise, s_app, s_sti, t_C, t_If, t_F, look_dat, look_lst, look_dct, look_io, look_fn, look_exc, look_scr, ioCall_lst, ioCall_io, stB_lst, stB_io, seq_next, seq_ret, seq_exc, R.bind_ok, R.bind_exc, oR_some, oO_some, noX_ok, gd_true, br_true, br_false, tru_bool, intOf_int, ofO_some, ofS_some, ofOut_ok, ofOut_exc, op2_dat, op2_newL, op2_slot, opd_some, fn1_dat, fn1_newL, fn1_slot, fnd_some, fn1_scr, op2_scr', fn2_dat, peek_dat', peek_newL, peek_slot, pkB_lst, pkB_io, isi_dat, frz_dat, frz_newL, frz_newD, frz_slot, fzB_lst, frzs_nil, frzs_cons, args_nil, args_fn, args_scr, args_dat, args_newL, args_newD, args_slot, setB_eq, setO_un, setO_dat, setO_lst, setO_fn, setV_newL, setV_newD, setV_fn, setV_dat, setV_slot, setDs_nil, setDs_cons, setTg_name, setTg_names, seqOf_list, seqOf_tuple, tupOf_tuple, lstOf_lst, zipS_list, zipS_tuple, ownL_eq, ownB_lst, ownB_io, ofOutIo_ok, oioB_io, oioB_lst, retV_dat, retV_newL, retV_slot, rtB_lst, ownOk_nil, ownOk_cons, ownF_un, ownF_dat, wipeB_nil, wipeB_cons, backB_nil, backB_cons, getD_some', and_tt, v_lenS, v_ixS, seqOf_sq, gdU_true, retO_some, end_ret, end_next, end_exc, ioS_io, ioS_dat, ioS_fn, ioS_exc, ioS_scr, ioOf_io, ioOf_dat, ioOf_fn, ioOf_exc, ioOf_scr, isIo_io, isIo_dat, isIo_fn, isIo_exc, isIo_scr, beq_self_eq_true, gdO_true, v_add, v_addL, v_addT, v_sub, v_mul, v_mulL, v_mulT, v_fdiv, v_mod, v_pow, v_lt, v_le, v_gt, v_ge, v_eq, v_ne, v_ixL, v_ixT, v_lenL, v_lenT, v_tupL, v_tupT, v_lstL, v_lstT, v_sum, v_sumT, v_all, v_any, v_neg, v_isN, v_notN, v_isT, v_notT, v_max, v_min, map_some', plain_one, isTys_one, List.getElem?_cons_zero, List.getElem?_cons_succ, List.set_cons_zero, List.set_cons_succ, List.cons_append, List.nil_append, List.map_cons, List.map_nil, arB, e_slcB, e_inRng, e_callV, e_callS, fnB_fn, i_wip, s_wipe, s_try, try_ret, try_exc, outR_ok, s_while, v_repr, v_revL, v_revT, v_intB, v_isF, v_notF, v_nil, cutT, cutL, cutN, cutS, cutD_list, List.replicate_succ, List.replicate_zero, atI_map' hil, List.length_map, hw1, hm1]
          rfl
      subst this
      rw [iota_map (g := fun i => .int (bkT ns k i)) fun i _ => by rw [Int.zero_add]; rfl]
      rw [show ((List.range (k + 1)).map fun i => PyData.int (bkT ns k i)) = ((List.range (k + 1)).map (bkT ns k)).map PyData.int by rw [List.map_map]; rfl]
      simp only [e_var, e_cst, e_gfn, e_op2, e_fn1, e_fn2, e_isi, e_and, e_or, e_not, e_ite, e_chain, e_lst, e_tup, e_emp, e_nil, e_cons, e_slcL, e_slcU, e_call, e_callIo, e_comp, e_compIf, i_of, i_rng1, i_rng2, i_enum, i_zip, s_nil, s_cons, s_set, s_unp, s_par, s_drop, s_ret, s_ite, s_for, s_raise, s_app, s_sti, t_C, t_If, t_F, look_dat, look_lst, look_dct, look_io, look_fn, look_exc, look_scr, ioCall_lst, ioCall_io, stB_lst, stB_io, seq_next, seq_ret, seq_exc, R.bind_ok, R.bind_exc, oR_some, oO_some, noX_ok, gd_true, br_true, br_false, tru_bool, intOf_int, ofO_some, ofS_some, ofOut_ok, ofOut_exc, op2_dat, op2_newL, op2_slot, opd_some, fn1_dat, fn1_newL, fn1_slot, fnd_some, fn1_scr, op2_scr', fn2_dat, peek_dat', peek_newL, peek_slot, pkB_lst, pkB_io, isi_dat, frz_dat, frz_newL, frz_newD, frz_slot, fzB_lst, frzs_nil, frzs_cons, args_nil, args_fn, args_scr, args_dat, args_newL, args_newD, args_slot, setB_eq, setO_un, setO_dat, setO_lst, setO_fn, setV_newL, setV_newD, setV_fn, setV_dat, setV_slot, setDs_nil, setDs_cons, setTg_name, setTg_names, seqOf_list, seqOf_tuple, tupOf_tuple, lstOf_lst, zipS_list, zipS_tuple, ownL_eq, ownB_lst, ownB_io, ofOutIo_ok, oioB_io, oioB_lst, retV_dat, retV_newL, retV_slot, rtB_lst, ownOk_nil, ownOk_cons, ownF_un, ownF_dat, wipeB_nil, wipeB_cons, backB_nil, backB_cons, getD_some', and_tt, v_lenS, v_ixS, seqOf_sq, gdU_true, retO_some, end_ret, end_next, end_exc, ioS_io, ioS_dat, ioS_fn, ioS_exc, ioS_scr, ioOf_io, ioOf_dat, ioOf_fn, ioOf_exc, ioOf_scr, isIo_io, isIo_dat, isIo_fn, isIo_exc, isIo_scr, beq_self_eq_true, gdO_true, v_add, v_addL, v_addT, v_sub, v_mul, v_mulL, v_mulT, v_fdiv, v_mod, v_pow, v_lt, v_le, v_gt, v_ge, v_eq, v_ne, v_ixL, v_ixT, v_lenL, v_lenT, v_tupL, v_tupT, v_lstL, v_lstT, v_sum, v_sumT, v_all, v_any, v_neg, v_isN, v_notN, v_isT, v_notT, v_max, v_min, map_some', plain_one, isTys_one, List.getElem?_cons_zero, List.getElem?_cons_succ, List.set_cons_zero, List.set_cons_succ, List.cons_append, List.nil_append, List.map_cons, List.map_nil, arB, e_slcB, e_inRng, e_callV, e_callS, fnB_fn, i_wip, s_wipe, s_try, try_ret, try_exc, outR_ok, s_while, v_repr, v_revL, v_revT, v_intB, v_isF, v_notF, v_nil, cutT, cutL, cutN, cutS, cutD_list, List.replicate_succ, List.replicate_zero, List.length_map, List.length_range, lenOk_of' (show k + 1 ≤ 1000000 by omega), sumR_list]
      refine ⟨_, rfl, by omega, .dat (.int (k : Nat)), ?_, trivial⟩
      rw [List.range_succ, List.map_append, List.map_append]
      rfl)
  obtain ⟨_, b2, rfl, l2⟩ := qq
  rw [iota_len]
  simp only [e_var, e_cst, e_gfn, e_op2, e_fn1, e_fn2, e_isi, e_and, e_or, e_not, e_ite, e_chain, e_lst, e_tup, e_emp, e_nil, e_cons, e_slcL, e_slcU, e_call, e_callIo, e_comp, e_compIf, i_of, i_rng1, i_rng2, i_enum, i_zip, s_nil, s_cons, s_set, s_unp, s_par, s_drop, s_ret, s_ite, s_for, s_raise, s_app, s_sti, t_C, t_If, t_F, look_dat, look_lst, look_dct, look_io, look_fn, look_exc, look_scr, ioCall_lst, ioCall_io, stB_lst, stB_io, seq_next, seq_ret, seq_exc, R.bind_ok, R.bind_exc, oR_some, oO_some, noX_ok, gd_true, br_true, br_false, tru_bool, intOf_int, ofO_some, ofS_some, ofOut_ok, ofOut_exc, op2_dat, op2_newL, op2_slot, opd_some, fn1_dat, fn1_newL, fn1_slot, fnd_some, fn1_scr, op2_scr', fn2_dat, peek_dat', peek_newL, peek_slot, pkB_lst, pkB_io, isi_dat, frz_dat, frz_newL, frz_newD, frz_slot, fzB_lst, frzs_nil, frzs_cons, args_nil, args_fn, args_scr, args_dat, args_newL, args_newD, args_slot, setB_eq, setO_un, setO_dat, setO_lst, setO_fn, setV_newL, setV_newD, setV_fn, setV_dat, setV_slot, setDs_nil, setDs_cons, setTg_name, setTg_names, seqOf_list, seqOf_tuple, tupOf_tuple, lstOf_lst, zipS_list, zipS_tuple, ownL_eq, ownB_lst, ownB_io, ofOutIo_ok, oioB_io, oioB_lst, retV_dat, retV_newL, retV_slot, rtB_lst, ownOk_nil, ownOk_cons, ownF_un, ownF_dat, wipeB_nil, wipeB_cons, backB_nil, backB_cons, getD_some', and_tt, v_lenS, v_ixS, seqOf_sq, gdU_true, retO_some, end_ret, end_next, end_exc, ioS_io, ioS_dat, ioS_fn, ioS_exc, ioS_scr, ioOf_io, ioOf_dat, ioOf_fn, ioOf_exc, ioOf_scr, isIo_io, isIo_dat, isIo_fn, isIo_exc, isIo_scr, beq_self_eq_true, gdO_true, v_add, v_addL, v_addT, v_sub, v_mul, v_mulL, v_mulT, v_fdiv, v_mod, v_pow, v_lt, v_le, v_gt, v_ge, v_eq, v_ne, v_ixL, v_ixT, v_lenL, v_lenT, v_tupL, v_tupT, v_lstL, v_lstT, v_sum, v_sumT, v_all, v_any, v_neg, v_isN, v_notN, v_isT, v_notT, v_max, v_min, map_some', plain_one, isTys_one, List.getElem?_cons_zero, List.getElem?_cons_succ, List.set_cons_zero, List.set_cons_succ, List.cons_append, List.nil_append, List.map_cons, List.map_nil, arB, e_slcB, e_inRng, e_callV, e_callS, fnB_fn, i_wip, s_wipe, s_try, try_ret, try_exc, outR_ok, s_while, v_repr, v_revL, v_revT, v_intB, v_isF, v_notF, v_nil, cutT, cutL, cutN, cutS, cutD_list, List.replicate_succ, List.replicate_zero]
  rfl
theorem p_turned_back (hP : P n_turned_back = some d_turned_back) (hc : P n_check_row = some d_check_row) (hr : P n_is_row = some d_is_row) (hn : P n_are_numbers = some d_are_numbers) (hw : P n_is_whole = some d_is_whole) (ho : P n_back_of = some d_back_of) (hy : P n_ways = some d_ways)
    {ns : List Int} {b : Nat} (h : RowOk ns) (hB : Bd b ns) (hb2 : b ≤ 9000) : Spec P 5 n_turned_back [.dat (tupI ns)] (.ok (.dat (tupI (bkL ns))) []) := by
  refine spec_of hP rfl fun K hK => ?_
  have h1 := p_check_row hc hr hn hw h K hK
  have h2 := p_back_of (q := true) ho hy h.2 hB hb2 K (by omega)
  rw [sq_true] at h2
  unfold tupI at h1 h2 ⊢
  simp only [e_var, e_cst, e_gfn, e_op2, e_fn1, e_fn2, e_isi, e_and, e_or, e_not, e_ite, e_chain, e_lst, e_tup, e_emp, e_nil, e_cons, e_slcL, e_slcU, e_call, e_callIo, e_comp, e_compIf, i_of, i_rng1, i_rng2, i_enum, i_zip, s_nil, s_cons, s_set, s_unp, s_par, s_drop, s_ret, s_ite, s_for, s_raise, s_app, s_sti, t_C, t_If, t_F, look_dat, look_lst, look_dct, look_io, look_fn, look_exc, look_scr, ioCall_lst, ioCall_io, stB_lst, stB_io, seq_next, seq_ret, seq_exc, R.bind_ok, R.bind_exc, oR_some, oO_some, noX_ok, gd_true, br_true, br_false, tru_bool, intOf_int, ofO_some, ofS_some, ofOut_ok, ofOut_exc, op2_dat, op2_newL, op2_slot, opd_some, fn1_dat, fn1_newL, fn1_slot, fnd_some, fn1_scr, op2_scr', fn2_dat, peek_dat', peek_newL, peek_slot, pkB_lst, pkB_io, isi_dat, frz_dat, frz_newL, frz_newD, frz_slot, fzB_lst, frzs_nil, frzs_cons, args_nil, args_fn, args_scr, args_dat, args_newL, args_newD, args_slot, setB_eq, setO_un, setO_dat, setO_lst, setO_fn, setV_newL, setV_newD, setV_fn, setV_dat, setV_slot, setDs_nil, setDs_cons, setTg_name, setTg_names, seqOf_list, seqOf_tuple, tupOf_tuple, lstOf_lst, zipS_list, zipS_tuple, ownL_eq, ownB_lst, ownB_io, ofOutIo_ok, oioB_io, oioB_lst, retV_dat, retV_newL, retV_slot, rtB_lst, ownOk_nil, ownOk_cons, ownF_un, ownF_dat, wipeB_nil, wipeB_cons, backB_nil, backB_cons, getD_some', and_tt, v_lenS, v_ixS, seqOf_sq, gdU_true, retO_some, end_ret, end_next, end_exc, ioS_io, ioS_dat, ioS_fn, ioS_exc, ioS_scr, ioOf_io, ioOf_dat, ioOf_fn, ioOf_exc, ioOf_scr, isIo_io, isIo_dat, isIo_fn, isIo_exc, isIo_scr, beq_self_eq_true, gdO_true, v_add, v_addL, v_addT, v_sub, v_mul, v_mulL, v_mulT, v_fdiv, v_mod, v_pow, v_lt, v_le, v_gt, v_ge, v_eq, v_ne, v_ixL, v_ixT, v_lenL, v_lenT, v_tupL, v_tupT, v_lstL, v_lstT, v_sum, v_sumT, v_all, v_any, v_neg, v_isN, v_notN, v_isT, v_notT, v_max, v_min, map_some', plain_one, isTys_one, List.getElem?_cons_zero, List.getElem?_cons_succ, List.set_cons_zero, List.set_cons_succ, List.cons_append, List.nil_append, List.map_cons, List.map_nil, arB, e_slcB, e_inRng, e_callV, e_callS, fnB_fn, i_wip, s_wipe, s_try, try_ret, try_exc, outR_ok, s_while, v_repr, v_revL, v_revT, v_intB, v_isF, v_notF, v_nil, cutT, cutL, cutN, cutS, cutD_list, List.replicate_succ, List.replicate_zero, c_turned_back, h1, h2]
/-- the first place where a row isn't as from behind -/
def unev (h : List Int) : Nat → Nat → Option Nat
  | _, 0 => none
  | k, n + 1 => if h.getD k 0 ≠ h.getD (h.length - 1 - k) 0 then some k else unev h (k + 1) n
def optI : Option Nat → D
  | some k => .int (k : Nat)
  | none => .none
theorem loopF_find {turn : D → St → R Fl} {h : List Int} {K1 : St → Prop} (hs : ∀ (k : Nat) s, k < h.length → K1 s → ∃ s', K1 s' ∧ turn (.tuple [.int (k : Nat), .int (h.getD k 0)]) s = if h.getD k 0 ≠ h.getD (h.length - 1 - k) 0 then .ok (.ret (.dat (.int (k : Nat)))) s' else .ok .next s') :
    ∀ (n k : Nat) (s : St), k + n = h.length → K1 s → ∃ s', K1 s' ∧ loopF turn (enumD k ((h.drop k).map .int)) s = match unev h k n with
      | some j => .ok (.ret (.dat (.int (j : Nat)))) s'
      | none => .ok .next s'
  | 0, k, s, e, k1 => by
    rw [show h.drop k = [] from List.drop_eq_nil_of_le (by omega)]
    exact ⟨s, k1, rfl⟩
  | n + 1, k, s, e, k1 => by
    have hk : k < h.length := by omega
    obtain ⟨s1, k2, e1⟩ := hs k s hk k1
    have ed : h.drop k = h.getD k 0 :: h.drop (k + 1) := by
      rw [List.drop_eq_getElem_cons hk]; simp [List.getD, hk]
    rw [ed]
    show ∃ s', K1 s' ∧ (match turn (.tuple [.int (k : Nat), .int (h.getD k 0)]) s with
      | .ok .next s1 => loopF turn (enumD (k + 1) ((h.drop (k + 1)).map .int)) s1
      | r => r) = _
    rw [e1]
    unfold unev
    by_cases hc : h.getD k 0 ≠ h.getD (h.length - 1 - k) 0
    · rw [if_pos hc, if_pos hc]
      exact ⟨s1, k2, rfl⟩
    · rw [if_neg hc, if_neg hc]
      exact loopF_find hs n (k + 1) s1 (by omega) k2
theorem p_uneven_of (hP : P n_uneven_of = some d_uneven_of) (ho : P n_turned_of = some d_turned_of) (hb : P n_turned_by = some d_turned_by) (hy : P n_ways = some d_ways) {ns : List Int} {b : Nat} (h : RowOk ns) (hB : Bd b ns) (hb2 : b ≤ 9000) :
    Spec P 4 n_uneven_of [.dat (tupI ns)] (.ok (.dat (optI (unev (trL (ns.length - 1 : Nat) ns) 0 ns.length))) []) := by
  refine spec_of hP rfl fun K hK => ?_
  have h2 := p_turned_of ho hb hy h hB hb2 K (by omega)
  have hl : (trL (ns.length - 1 : Nat) ns).length = ns.length := by unfold trL; rw [List.length_map, List.length_range]
  generalize trL (ns.length - 1 : Nat) ns = t at *
  unfold tupI at h2 ⊢
  simp only [e_var, e_cst, e_gfn, e_op2, e_fn1, e_fn2, e_isi, e_and, e_or, e_not, e_ite, e_chain, e_lst, e_tup, e_emp, e_nil, e_cons, e_slcL, e_slcU, e_call, e_callIo, e_comp, e_compIf, i_of, i_rng1, i_rng2, i_enum, i_zip, s_nil, s_cons, s_set, s_unp, s_par, s_drop, s_ret, s_ite, s_for, s_raise, s_app, s_sti, t_C, t_If, t_F, look_dat, look_lst, look_dct, look_io, look_fn, look_exc, look_scr, ioCall_lst, ioCall_io, stB_lst, stB_io, seq_next, seq_ret, seq_exc, R.bind_ok, R.bind_exc, oR_some, oO_some, noX_ok, gd_true, br_true, br_false, tru_bool, intOf_int, ofO_some, ofS_some, ofOut_ok, ofOut_exc, op2_dat, op2_newL, op2_slot, opd_some, fn1_dat, fn1_newL, fn1_slot, fnd_some, fn1_scr, op2_scr', fn2_dat, peek_dat', peek_newL, peek_slot, pkB_lst, pkB_io, isi_dat, frz_dat, frz_newL, frz_newD, frz_slot, fzB_lst, frzs_nil, frzs_cons, args_nil, args_fn, args_scr, args_dat, args_newL, args_newD, args_slot, setB_eq, setO_un, setO_dat, setO_lst, setO_fn, setV_newL, setV_newD, setV_fn, setV_dat, setV_slot, setDs_nil, setDs_cons, setTg_name, setTg_names, seqOf_list, seqOf_tuple, tupOf_tuple, lstOf_lst, zipS_list, zipS_tuple, ownL_eq, ownB_lst, ownB_io, ofOutIo_ok, oioB_io, oioB_lst, retV_dat, retV_newL, retV_slot, rtB_lst, ownOk_nil, ownOk_cons, ownF_un, ownF_dat, wipeB_nil, wipeB_cons, backB_nil, backB_cons, getD_some', and_tt, v_lenS, v_ixS, seqOf_sq, gdU_true, retO_some, end_ret, end_next, end_exc, ioS_io, ioS_dat, ioS_fn, ioS_exc, ioS_scr, ioOf_io, ioOf_dat, ioOf_fn, ioOf_exc, ioOf_scr, isIo_io, isIo_dat, isIo_fn, isIo_exc, isIo_scr, beq_self_eq_true, gdO_true, v_add, v_addL, v_addT, v_sub, v_mul, v_mulL, v_mulT, v_fdiv, v_mod, v_pow, v_lt, v_le, v_gt, v_ge, v_eq, v_ne, v_ixL, v_ixT, v_lenL, v_lenT, v_tupL, v_tupT, v_lstL, v_lstT, v_sum, v_sumT, v_all, v_any, v_neg, v_isN, v_notN, v_isT, v_notT, v_max, v_min, map_some', plain_one, isTys_one, List.getElem?_cons_zero, List.getElem?_cons_succ, List.set_cons_zero, List.set_cons_succ, List.cons_append, List.nil_append, List.map_cons, List.map_nil, arB, e_slcB, e_inRng, e_callV, e_callS, fnB_fn, i_wip, s_wipe, s_try, try_ret, try_exc, outR_ok, s_while, v_repr, v_revL, v_revT, v_intB, v_isF, v_notF, v_nil, cutT, cutL, cutN, cutS, cutD_list, List.replicate_succ, List.replicate_zero, c_uneven_of, h2]
  obtain ⟨s', ⟨b2, b3, rfl, l2, l3⟩, e⟩ := loopF_find (turn := tnF (dFun P K) (.names [2, 3]) (.cons (.ite_ (.op2 .ne (.var 3) (.op2 .ix (.var 1) (.op2 .sub (.op2 .sub (.fn1 .len (.var 1)) (.cst (.int 1))) (.var 2)))) (.cons (.ret (.var 2)) .nil) .nil) .nil)) (h := t) (K1 := fun s => ∃ b2 b3, s = [.dat (.tuple (ns.map .int)), .dat (.tuple (t.map .int)), b2, b3] ∧ loose b2 ∧ loose b3) (fun k s hk hq => by
      obtain ⟨b2, b3, rfl, l2, l3⟩ := hq
      have e1 : (t.length : Int) - 1 - (k : Int) = ((t.length - 1 - k : Nat) : Int) := by omega
      simp only [e_var, e_cst, e_gfn, e_op2, e_fn1, e_fn2, e_isi, e_and, e_or, e_not, e_ite, e_chain, e_lst, e_tup, e_emp, e_nil, e_cons, e_slcL, e_slcU, e_call, e_callIo, e_comp, e_compIf, i_of, i_rng1, i_rng2, i_enum, i_zip, s_nil, s_cons, s_set, s_unp, s_par, s_drop, s_ret, s_ite, s_for, s_raise, s_app, s_sti, t_C, t_If, t_F, look_dat, look_lst, look_dct, look_io, look_fn, look_exc, look_scr, ioCall_lst, ioCall_io, stB_lst, stB_io, seq_next, seq_ret, seq_exc, R.bind_ok, R.bind_exc, oR_some, oO_some, noX_ok, gd_true, br_true, br_false, tru_bool, intOf_int, ofO_some, ofS_some, ofOut_ok, ofOut_exc, op2_dat, op2_newL, op2_slot, opd_some, fn1_dat, fn1_newL, fn1_slot, fnd_some, fn1_scr, op2_scr', fn2_dat, peek_dat', peek_newL, peek_slot, pkB_lst, pkB_io, isi_dat, frz_dat, frz_newL, frz_newD, frz_slot, fzB_lst, frzs_nil, frzs_cons, args_nil, args_fn, args_scr, args_dat, args_newL, args_newD, args_slot, setB_eq, setO_un, setO_dat, setO_lst, setO_fn, setV_newL, setV_newD, setV_fn, setV_dat, setV_slot, setDs_nil, setDs_cons, setTg_name, setTg_names, seqOf_list, seqOf_tuple, tupOf_tuple, lstOf_lst, zipS_list, zipS_tuple, ownL_eq, ownB_lst, ownB_io, ofOutIo_ok, oioB_io, oioB_lst, retV_dat, retV_newL, retV_slot, rtB_lst, ownOk_nil, ownOk_cons, ownF_un, ownF_dat, wipeB_nil, wipeB_cons, backB_nil, backB_cons, getD_some', and_tt, v_lenS, v_ixS, seqOf_sq, gdU_true, retO_some, end_ret, end_next, end_exc, ioS_io, ioS_dat, ioS_fn, ioS_exc, ioS_scr, ioOf_io, ioOf_dat, ioOf_fn, ioOf_exc, ioOf_scr, isIo_io, isIo_dat, isIo_fn, isIo_exc, isIo_scr, beq_self_eq_true, gdO_true, v_add, v_addL, v_addT, v_sub, v_mul, v_mulL, v_mulT, v_fdiv, v_mod, v_pow, v_lt, v_le, v_gt, v_ge, v_eq, v_ne, v_ixL, v_ixT, v_lenL, v_lenT, v_tupL, v_tupT, v_lstL, v_lstT, v_sum, v_sumT, v_all, v_any, v_neg, v_isN, v_notN, v_isT, v_notT, v_max, v_min, map_some', plain_one, isTys_one, List.getElem?_cons_zero, List.getElem?_cons_succ, List.set_cons_zero, List.set_cons_succ, List.cons_append, List.nil_append, List.map_cons, List.map_nil, arB, e_slcB, e_inRng, e_callV, e_callS, fnB_fn, i_wip, s_wipe, s_try, try_ret, try_exc, outR_ok, s_while, v_repr, v_revL, v_revT, v_intB, v_isF, v_notF, v_nil, cutT, cutL, cutN, cutS, cutD_list, List.replicate_succ, List.replicate_zero, setO_loose l2, setO_loose l3, List.length_map, e1, atI_map' (show t.length - 1 - k < t.length by omega), fit_int, eqv_int]
      refine ⟨_, ⟨.dat (.int (k : Nat)), .dat (.int (t.getD k 0)), rfl, trivial, trivial⟩, ?_⟩
      by_cases hc : t.getD k 0 = t.getD (t.length - 1 - k) 0
      · simp only [e_var, e_cst, e_gfn, e_op2, e_fn1, e_fn2, e_isi, e_and, e_or, e_not, e_ite, e_chain, e_lst, e_tup, e_emp, e_nil, e_cons, e_slcL, e_slcU, e_call, e_callIo, e_comp, e_compIf, i_of, i_rng1, i_rng2, i_enum, i_zip, s_nil, s_cons, s_set, s_unp, s_par, s_drop, s_ret, s_ite, s_for, s_raise, s_app, s_sti, t_C, t_If, t_F, look_dat, look_lst, look_dct, look_io, look_fn, look_exc, look_scr, ioCall_lst, ioCall_io, stB_lst, stB_io, seq_next, seq_ret, seq_exc, R.bind_ok, R.bind_exc, oR_some, oO_some, noX_ok, gd_true, br_true, br_false, tru_bool, intOf_int, ofO_some, ofS_some, ofOut_ok, ofOut_exc, op2_dat, op2_newL, op2_slot, opd_some, fn1_dat, fn1_newL, fn1_slot, fnd_some, fn1_scr, op2_scr', fn2_dat, peek_dat', peek_newL, peek_slot, pkB_lst, pkB_io, isi_dat, frz_dat, frz_newL, frz_newD, frz_slot, fzB_lst, frzs_nil, frzs_cons, args_nil, args_fn, args_scr, args_dat, args_newL, args_newD, args_slot, setB_eq, setO_un, setO_dat, setO_lst, setO_fn, setV_newL, setV_newD, setV_fn, setV_dat, setV_slot, setDs_nil, setDs_cons, setTg_name, setTg_names, seqOf_list, seqOf_tuple, tupOf_tuple, lstOf_lst, zipS_list, zipS_tuple, ownL_eq, ownB_lst, ownB_io, ofOutIo_ok, oioB_io, oioB_lst, retV_dat, retV_newL, retV_slot, rtB_lst, ownOk_nil, ownOk_cons, ownF_un, ownF_dat, wipeB_nil, wipeB_cons, backB_nil, backB_cons, getD_some', and_tt, v_lenS, v_ixS, seqOf_sq, gdU_true, retO_some, end_ret, end_next, end_exc, ioS_io, ioS_dat, ioS_fn, ioS_exc, ioS_scr, ioOf_io, ioOf_dat, ioOf_fn, ioOf_exc, ioOf_scr, isIo_io, isIo_dat, isIo_fn, isIo_exc, isIo_scr, beq_self_eq_true, gdO_true, v_add, v_addL, v_addT, v_sub, v_mul, v_mulL, v_mulT, v_fdiv, v_mod, v_pow, v_lt, v_le, v_gt, v_ge, v_eq, v_ne, v_ixL, v_ixT, v_lenL, v_lenT, v_tupL, v_tupT, v_lstL, v_lstT, v_sum, v_sumT, v_all, v_any, v_neg, v_isN, v_notN, v_isT, v_notT, v_max, v_min, map_some', plain_one, isTys_one, List.getElem?_cons_zero, List.getElem?_cons_succ, List.set_cons_zero, List.set_cons_succ, List.cons_append, List.nil_append, List.map_cons, List.map_nil, arB, e_slcB, e_inRng, e_callV, e_callS, fnB_fn, i_wip, s_wipe, s_try, try_ret, try_exc, outR_ok, s_while, v_repr, v_revL, v_revT, v_intB, v_isF, v_notF, v_nil, cutT, cutL, cutN, cutS, cutD_list, List.replicate_succ, List.replicate_zero, hc, decide_true, Bool.not_true]
        rw [if_neg (fun z => z rfl)]
      · simp only [e_var, e_cst, e_gfn, e_op2, e_fn1, e_fn2, e_isi, e_and, e_or, e_not, e_ite, e_chain, e_lst, e_tup, e_emp, e_nil, e_cons, e_slcL, e_slcU, e_call, e_callIo, e_comp, e_compIf, i_of, i_rng1, i_rng2, i_enum, i_zip, s_nil, s_cons, s_set, s_unp, s_par, s_drop, s_ret, s_ite, s_for, s_raise, s_app, s_sti, t_C, t_If, t_F, look_dat, look_lst, look_dct, look_io, look_fn, look_exc, look_scr, ioCall_lst, ioCall_io, stB_lst, stB_io, seq_next, seq_ret, seq_exc, R.bind_ok, R.bind_exc, oR_some, oO_some, noX_ok, gd_true, br_true, br_false, tru_bool, intOf_int, ofO_some, ofS_some, ofOut_ok, ofOut_exc, op2_dat, op2_newL, op2_slot, opd_some, fn1_dat, fn1_newL, fn1_slot, fnd_some, fn1_scr, op2_scr', fn2_dat, peek_dat', peek_newL, peek_slot, pkB_lst, pkB_io, isi_dat, frz_dat, frz_newL, frz_newD, frz_slot, fzB_lst, frzs_nil, frzs_cons, args_nil, args_fn, args_scr, args_dat, args_newL, args_newD, args_slot, setB_eq, setO_un, setO_dat, setO_lst, setO_fn, setV_newL, setV_newD, setV_fn, setV_dat, setV_slot, setDs_nil, setDs_cons, setTg_name, setTg_names, seqOf_list, seqOf_tuple, tupOf_tuple, lstOf_lst, zipS_list, zipS_tuple, ownL_eq, ownB_lst, ownB_io, ofOutIo_ok, oioB_io, oioB_lst, retV_dat, retV_newL, retV_slot, rtB_lst, ownOk_nil, ownOk_cons, ownF_un, ownF_dat, wipeB_nil, wipeB_cons, backB_nil, backB_cons, getD_some', and_tt, v_lenS, v_ixS, seqOf_sq, gdU_true, retO_some, end_ret, end_next, end_exc, ioS_io, ioS_dat, ioS_fn, ioS_exc, ioS_scr, ioOf_io, ioOf_dat, ioOf_fn, ioOf_exc, ioOf_scr, isIo_io, isIo_dat, isIo_fn, isIo_exc, isIo_scr, beq_self_eq_true, gdO_true, v_add, v_addL, v_addT, v_sub, v_mul, v_mulL, v_mulT, v_fdiv, v_mod, v_pow, v_lt, v_le, v_gt, v_ge, v_eq, v_ne, v_ixL, v_ixT, v_lenL, v_lenT, v_tupL, v_tupT, v_lstL, v_lstT, v_sum, v_sumT, v_all, v_any, v_neg, v_isN, v_notN, v_isT, v_notT, v_max, v_min, map_some', plain_one, isTys_one, List.getElem?_cons_zero, List.getElem?_cons_succ, List.set_cons_zero, List.set_cons_succ, List.cons_append, List.nil_append, List.map_cons, List.map_nil, arB, e_slcB, e_inRng, e_callV, e_callS, fnB_fn, i_wip, s_wipe, s_try, try_ret, try_exc, outR_ok, s_while, v_repr, v_revL, v_revT, v_intB, v_isF, v_notF, v_nil, cutT, cutL, cutN, cutS, cutD_list, List.replicate_succ, List.replicate_zero, hc, decide_false, Bool.not_false]
        rw [if_pos hc]) ns.length 0 [.dat (.tuple (ns.map .int)), .dat (.tuple (t.map .int)), .un, .un] (by omega) ⟨.un, .un, rfl, trivial, trivial⟩
  rw [List.drop_zero] at e
  rw [e]
  cases unev t 0 ns.length with
  | none => simp only [e_var, e_cst, e_gfn, e_op2, e_fn1, e_fn2, e_isi, e_and, e_or, e_not, e_ite, e_chain, e_lst, e_tup, e_emp, e_nil, e_cons, e_slcL, e_slcU, e_call, e_callIo, e_comp, e_compIf, i_of, i_rng1, i_rng2, i_enum, i_zip, s_nil, s_cons, s_set, s_unp, s_par, s_drop, s_ret, s_ite, s_for, s_raise, s_app, s_sti, t_C, t_If, t_F, look_dat, look_lst, look_dct, look_io, look_fn, look_exc, look_scr, ioCall_lst, ioCall_io, stB_lst, stB_io, seq_next, seq_ret, seq_exc, R.bind_ok, R.bind_exc, oR_some, oO_some, noX_ok, gd_true, br_true, br_false, tru_bool, intOf_int, ofO_some, ofS_some, ofOut_ok, ofOut_exc, op2_dat, op2_newL, op2_slot, opd_some, fn1_dat, fn1_newL, fn1_slot, fnd_some, fn1_scr, op2_scr', fn2_dat, peek_dat', peek_newL, peek_slot, pkB_lst, pkB_io, isi_dat, frz_dat, frz_newL, frz_newD, frz_slot, fzB_lst, frzs_nil, frzs_cons, args_nil, args_fn, args_scr, args_dat, args_newL, args_newD, args_slot, setB_eq, setO_un, setO_dat, setO_lst, setO_fn, setV_newL, setV_newD, setV_fn, setV_dat, setV_slot, setDs_nil, setDs_cons, setTg_name, setTg_names, seqOf_list, seqOf_tuple, tupOf_tuple, lstOf_lst, zipS_list, zipS_tuple, ownL_eq, ownB_lst, ownB_io, ofOutIo_ok, oioB_io, oioB_lst, retV_dat, retV_newL, retV_slot, rtB_lst, ownOk_nil, ownOk_cons, ownF_un, ownF_dat, wipeB_nil, wipeB_cons, backB_nil, backB_cons, getD_some', and_tt, v_lenS, v_ixS, seqOf_sq, gdU_true, retO_some, end_ret, end_next, end_exc, ioS_io, ioS_dat, ioS_fn, ioS_exc, ioS_scr, ioOf_io, ioOf_dat, ioOf_fn, ioOf_exc, ioOf_scr, isIo_io, isIo_dat, isIo_fn, isIo_exc, isIo_scr, beq_self_eq_true, gdO_true, v_add, v_addL, v_addT, v_sub, v_mul, v_mulL, v_mulT, v_fdiv, v_mod, v_pow, v_lt, v_le, v_gt, v_ge, v_eq, v_ne, v_ixL, v_ixT, v_lenL, v_lenT, v_tupL, v_tupT, v_lstL, v_lstT, v_sum, v_sumT, v_all, v_any, v_neg, v_isN, v_notN, v_isT, v_notT, v_max, v_min, map_some', plain_one, isTys_one, List.getElem?_cons_zero, List.getElem?_cons_succ, List.set_cons_zero, List.set_cons_succ, List.cons_append, List.nil_append, List.map_cons, List.map_nil, arB, e_slcB, e_inRng, e_callV, e_callS, fnB_fn, i_wip, s_wipe, s_try, try_ret, try_exc, outR_ok, s_while, v_repr, v_revL, v_revT, v_intB, v_isF, v_notF, v_nil, cutT, cutL, cutN, cutS, cutD_list, List.replicate_succ, List.replicate_zero]; rfl
  | some j => simp only [e_var, e_cst, e_gfn, e_op2, e_fn1, e_fn2, e_isi, e_and, e_or, e_not, e_ite, e_chain, e_lst, e_tup, e_emp, e_nil, e_cons, e_slcL, e_slcU, e_call, e_callIo, e_comp, e_compIf, i_of, i_rng1, i_rng2, i_enum, i_zip, s_nil, s_cons, s_set, s_unp, s_par, s_drop, s_ret, s_ite, s_for, s_raise, s_app, s_sti, t_C, t_If, t_F, look_dat, look_lst, look_dct, look_io, look_fn, look_exc, look_scr, ioCall_lst, ioCall_io, stB_lst, stB_io, seq_next, seq_ret, seq_exc, R.bind_ok, R.bind_exc, oR_some, oO_some, noX_ok, gd_true, br_true, br_false, tru_bool, intOf_int, ofO_some, ofS_some, ofOut_ok, ofOut_exc, op2_dat, op2_newL, op2_slot, opd_some, fn1_dat, fn1_newL, fn1_slot, fnd_some, fn1_scr, op2_scr', fn2_dat, peek_dat', peek_newL, peek_slot, pkB_lst, pkB_io, isi_dat, frz_dat, frz_newL, frz_newD, frz_slot, fzB_lst, frzs_nil, frzs_cons, args_nil, args_fn, args_scr, args_dat, args_newL, args_newD, args_slot, setB_eq, setO_un, setO_dat, setO_lst, setO_fn, setV_newL, setV_newD, setV_fn, setV_dat, setV_slot, setDs_nil, setDs_cons, setTg_name, setTg_names, seqOf_list, seqOf_tuple, tupOf_tuple, lstOf_lst, zipS_list, zipS_tuple, ownL_eq, ownB_lst, ownB_io, ofOutIo_ok, oioB_io, oioB_lst, retV_dat, retV_newL, retV_slot, rtB_lst, ownOk_nil, ownOk_cons, ownF_un, ownF_dat, wipeB_nil, wipeB_cons, backB_nil, backB_cons, getD_some', and_tt, v_lenS, v_ixS, seqOf_sq, gdU_true, retO_some, end_ret, end_next, end_exc, ioS_io, ioS_dat, ioS_fn, ioS_exc, ioS_scr, ioOf_io, ioOf_dat, ioOf_fn, ioOf_exc, ioOf_scr, isIo_io, isIo_dat, isIo_fn, isIo_exc, isIo_scr, beq_self_eq_true, gdO_true, v_add, v_addL, v_addT, v_sub, v_mul, v_mulL, v_mulT, v_fdiv, v_mod, v_pow, v_lt, v_le, v_gt, v_ge, v_eq, v_ne, v_ixL, v_ixT, v_lenL, v_lenT, v_tupL, v_tupT, v_lstL, v_lstT, v_sum, v_sumT, v_all, v_any, v_neg, v_isN, v_notN, v_isT, v_notT, v_max, v_min, map_some', plain_one, isTys_one, List.getElem?_cons_zero, List.getElem?_cons_succ, List.set_cons_zero, List.set_cons_succ, List.cons_append, List.nil_append, List.map_cons, List.map_nil, arB, e_slcB, e_inRng, e_callV, e_callS, fnB_fn, i_wip, s_wipe, s_try, try_ret, try_exc, outR_ok, s_while, v_repr, v_revL, v_revT, v_intB, v_isF, v_notF, v_nil, cutT, cutL, cutN, cutS, cutD_list, List.replicate_succ, List.replicate_zero]; rfl
theorem p_first_uneven (hP : P n_first_uneven = some d_first_uneven) (hc : P n_check_row = some d_check_row) (hr : P n_is_row = some d_is_row) (hn : P n_are_numbers = some d_are_numbers) (hw : P n_is_whole = some d_is_whole) (hu : P n_uneven_of = some d_uneven_of) (ho : P n_turned_of = some d_turned_of) (hb : P n_turned_by = some d_turned_by) (hy : P n_ways = some d_ways)
    {ns : List Int} {b : Nat} (h : RowOk ns) (hB : Bd b ns) (hb2 : b ≤ 9000) : Spec P 5 n_first_uneven [.dat (tupI ns)] (.ok (.dat (optI (unev (trL (ns.length - 1 : Nat) ns) 0 ns.length))) []) := by
  refine spec_of hP rfl fun K hK => ?_
  have h1 := p_check_row hc hr hn hw h K hK
  have h2 := p_uneven_of hu ho hb hy h hB hb2 K (by omega)
  simp only [e_var, e_cst, e_gfn, e_op2, e_fn1, e_fn2, e_isi, e_and, e_or, e_not, e_ite, e_chain, e_lst, e_tup, e_emp, e_nil, e_cons, e_slcL, e_slcU, e_call, e_callIo, e_comp, e_compIf, i_of, i_rng1, i_rng2, i_enum, i_zip, s_nil, s_cons, s_set, s_unp, s_par, s_drop, s_ret, s_ite, s_for, s_raise, s_app, s_sti, t_C, t_If, t_F, look_dat, look_lst, look_dct, look_io, look_fn, look_exc, look_scr, ioCall_lst, ioCall_io, stB_lst, stB_io, seq_next, seq_ret, seq_exc, R.bind_ok, R.bind_exc, oR_some, oO_some, noX_ok, gd_true, br_true, br_false, tru_bool, intOf_int, ofO_some, ofS_some, ofOut_ok, ofOut_exc, op2_dat, op2_newL, op2_slot, opd_some, fn1_dat, fn1_newL, fn1_slot, fnd_some, fn1_scr, op2_scr', fn2_dat, peek_dat', peek_newL, peek_slot, pkB_lst, pkB_io, isi_dat, frz_dat, frz_newL, frz_newD, frz_slot, fzB_lst, frzs_nil, frzs_cons, args_nil, args_fn, args_scr, args_dat, args_newL, args_newD, args_slot, setB_eq, setO_un, setO_dat, setO_lst, setO_fn, setV_newL, setV_newD, setV_fn, setV_dat, setV_slot, setDs_nil, setDs_cons, setTg_name, setTg_names, seqOf_list, seqOf_tuple, tupOf_tuple, lstOf_lst, zipS_list, zipS_tuple, ownL_eq, ownB_lst, ownB_io, ofOutIo_ok, oioB_io, oioB_lst, retV_dat, retV_newL, retV_slot, rtB_lst, ownOk_nil, ownOk_cons, ownF_un, ownF_dat, wipeB_nil, wipeB_cons, backB_nil, backB_cons, getD_some', and_tt, v_lenS, v_ixS, seqOf_sq, gdU_true, retO_some, end_ret, end_next, end_exc, ioS_io, ioS_dat, ioS_fn, ioS_exc, ioS_scr, ioOf_io, ioOf_dat, ioOf_fn, ioOf_exc, ioOf_scr, isIo_io, isIo_dat, isIo_fn, isIo_exc, isIo_scr, beq_self_eq_true, gdO_true, v_add, v_addL, v_addT, v_sub, v_mul, v_mulL, v_mulT, v_fdiv, v_mod, v_pow, v_lt, v_le, v_gt, v_ge, v_eq, v_ne, v_ixL, v_ixT, v_lenL, v_lenT, v_tupL, v_tupT, v_lstL, v_lstT, v_sum, v_sumT, v_all, v_any, v_neg, v_isN, v_notN, v_isT, v_notT, v_max, v_min, map_some', plain_one, isTys_one, List.getElem?_cons_zero, List.getElem?_cons_succ, List.set_cons_zero, List.set_cons_succ, List.cons_append, List.nil_append, List.map_cons, List.map_nil, arB, e_slcB, e_inRng, e_callV, e_callS, fnB_fn, i_wip, s_wipe, s_try, try_ret, try_exc, outR_ok, s_while, v_repr, v_revL, v_revT, v_intB, v_isF, v_notF, v_nil, cutT, cutL, cutN, cutS, cutD_list, List.replicate_succ, List.replicate_zero, c_first_uneven, h1, h2]
theorem p_is_even (hP : P n_is_even = some d_is_even) (hc : P n_check_row = some d_check_row) (hr : P n_is_row = some d_is_row) (hn : P n_are_numbers = some d_are_numbers) (hw : P n_is_whole = some d_is_whole) (hu : P n_uneven_of = some d_uneven_of) (ho : P n_turned_of = some d_turned_of) (hb : P n_turned_by = some d_turned_by) (hy : P n_ways = some d_ways)
    {ns : List Int} {b : Nat} (h : RowOk ns) (hB : Bd b ns) (hb2 : b ≤ 9000) : Spec P 5 n_is_even [.dat (tupI ns)] (.ok (.dat (.bool (unev (trL (ns.length - 1 : Nat) ns) 0 ns.length).isNone)) []) := by
  refine spec_of hP rfl fun K hK => ?_
  have h1 := p_check_row hc hr hn hw h K hK
  have h2 := p_uneven_of hu ho hb hy h hB hb2 K (by omega)
  simp only [e_var, e_cst, e_gfn, e_op2, e_fn1, e_fn2, e_isi, e_and, e_or, e_not, e_ite, e_chain, e_lst, e_tup, e_emp, e_nil, e_cons, e_slcL, e_slcU, e_call, e_callIo, e_comp, e_compIf, i_of, i_rng1, i_rng2, i_enum, i_zip, s_nil, s_cons, s_set, s_unp, s_par, s_drop, s_ret, s_ite, s_for, s_raise, s_app, s_sti, t_C, t_If, t_F, look_dat, look_lst, look_dct, look_io, look_fn, look_exc, look_scr, ioCall_lst, ioCall_io, stB_lst, stB_io, seq_next, seq_ret, seq_exc, R.bind_ok, R.bind_exc, oR_some, oO_some, noX_ok, gd_true, br_true, br_false, tru_bool, intOf_int, ofO_some, ofS_some, ofOut_ok, ofOut_exc, op2_dat, op2_newL, op2_slot, opd_some, fn1_dat, fn1_newL, fn1_slot, fnd_some, fn1_scr, op2_scr', fn2_dat, peek_dat', peek_newL, peek_slot, pkB_lst, pkB_io, isi_dat, frz_dat, frz_newL, frz_newD, frz_slot, fzB_lst, frzs_nil, frzs_cons, args_nil, args_fn, args_scr, args_dat, args_newL, args_newD, args_slot, setB_eq, setO_un, setO_dat, setO_lst, setO_fn, setV_newL, setV_newD, setV_fn, setV_dat, setV_slot, setDs_nil, setDs_cons, setTg_name, setTg_names, seqOf_list, seqOf_tuple, tupOf_tuple, lstOf_lst, zipS_list, zipS_tuple, ownL_eq, ownB_lst, ownB_io, ofOutIo_ok, oioB_io, oioB_lst, retV_dat, retV_newL, retV_slot, rtB_lst, ownOk_nil, ownOk_cons, ownF_un, ownF_dat, wipeB_nil, wipeB_cons, backB_nil, backB_cons, getD_some', and_tt, v_lenS, v_ixS, seqOf_sq, gdU_true, retO_some, end_ret, end_next, end_exc, ioS_io, ioS_dat, ioS_fn, ioS_exc, ioS_scr, ioOf_io, ioOf_dat, ioOf_fn, ioOf_exc, ioOf_scr, isIo_io, isIo_dat, isIo_fn, isIo_exc, isIo_scr, beq_self_eq_true, gdO_true, v_add, v_addL, v_addT, v_sub, v_mul, v_mulL, v_mulT, v_fdiv, v_mod, v_pow, v_lt, v_le, v_gt, v_ge, v_eq, v_ne, v_ixL, v_ixT, v_lenL, v_lenT, v_tupL, v_tupT, v_lstL, v_lstT, v_sum, v_sumT, v_all, v_any, v_neg, v_isN, v_notN, v_isT, v_notT, v_max, v_min, map_some', plain_one, isTys_one, List.getElem?_cons_zero, List.getElem?_cons_succ, List.set_cons_zero, List.set_cons_succ, List.cons_append, List.nil_append, List.map_cons, List.map_nil, arB, e_slcB, e_inRng, e_callV, e_callS, fnB_fn, i_wip, s_wipe, s_try, try_ret, try_exc, outR_ok, s_while, v_repr, v_revL, v_revT, v_intB, v_isF, v_notF, v_nil, cutT, cutL, cutN, cutS, cutD_list, List.replicate_succ, List.replicate_zero, c_is_even, h1, h2]
  cases unev (trL (ns.length - 1 : Nat) ns) 0 ns.length <;> rfl
end
end Fc

namespace Fc
open PySem
/-- the steps, by the turned row -/
def stL (h : List Int) : List Int := h.getD 0 0 :: (List.range ((h.length - 1) / 2)).map fun j => h.getD (j + 1) 0 - h.getD j 0
def evL (w : Nat) (f : List Int) : List Int := (List.range (w + 1)).map fun p => f.getD (min p (w - p)) 0
def psum (ns : List Int) : List Int := (List.range ns.length).map fun k => sumR (k + 1) fun i => ns.getD i 0
theorem trL_len (w : Int) (ns : List Int) : (trL w ns).length = ns.length := by unfold trL; rw [List.length_map, List.length_range]
theorem evL_len (w : Nat) (ns : List Int) : (evL w ns).length = w + 1 := by unfold evL; rw [List.length_map, List.length_range]
theorem psum_len (ns : List Int) : (psum ns).length = ns.length := by unfold psum; rw [List.length_map, List.length_range]
theorem stL_len (h : List Int) : (stL h).length = (h.length - 1) / 2 + 1 := by unfold stL; rw [List.length_cons, List.length_map, List.length_range]
section
variable {P : Nat → Option Fd}
theorem p_steps_of (hP : P n_steps_of = some d_steps_of) (ho : P n_turned_of = some d_turned_of) (hb : P n_turned_by = some d_turned_by) (hy : P n_ways = some d_ways) {ns : List Int} {b : Nat} (h : RowOk ns) (hB : Bd b ns) (hb2 : b ≤ 9000) :
    Spec P 4 n_steps_of [.dat (tupI ns)] (.ok (.dat (tupI (stL (trL (ns.length - 1 : Nat) ns)))) []) := by
  refine spec_of hP rfl fun K hK => ?_
  have h2 := p_turned_of ho hb hy h hB hb2 K (by omega)
  have hl := trL_len (ns.length - 1 : Nat) ns
  obtain ⟨g1, g2⟩ := h
  generalize trL (ns.length - 1 : Nat) ns = t at *
  unfold tupI at h2 ⊢
  have e1 : ((ns.length : Int) - 1) / 2 + 1 = (((ns.length - 1) / 2 + 1 : Nat) : Int) := by omega
  have hd : divOk 2 = true := by decide +kernel
  have hr1 : rngOk 1 = true := by decide
  have hr2 : rngOk (((ns.length - 1) / 2 + 1 : Nat) : Int) = true := rngOk_of' (by omega) (by omega)
  simp only [e_var, e_cst, e_gfn, e_op2, e_fn1, e_fn2, e_isi, e_and, e_or, e_not, e_ite, e_chain, e_lst, e_tup, e_emp, e_nil, e_cons, e_slcL, e_slcU, e_call, e_callIo, e_comp, e_compIf, i_of, i_rng1, i_rng2, i_enum, i_zip, s_nil, s_cons, s_set, s_unp, s_par, s_drop, s_ret, s_ite, s_for, s_raise, s_app, s_sti, t_C, t_If, t_F, look_dat, look_lst, look_dct, look_io, look_fn, look_exc, look_scr, ioCall_lst, ioCall_io, stB_lst, stB_io, seq_next, seq_ret, seq_exc, R.bind_ok, R.bind_exc, oR_some, oO_some, noX_ok, gd_true, br_true, br_false, tru_bool, intOf_int, ofO_some, ofS_some, ofOut_ok, ofOut_exc, op2_dat, op2_newL, op2_slot, opd_some, fn1_dat, fn1_newL, fn1_slot, fnd_some, fn1_scr, op2_scr', fn2_dat, peek_dat', peek_newL, peek_slot, pkB_lst, pkB_io, isi_dat, frz_dat, frz_newL, frz_newD, frz_slot, fzB_lst, frzs_nil, frzs_cons, args_nil, args_fn, args_scr, args_dat, args_newL, args_newD, args_slot, setB_eq, setO_un, setO_dat, setO_lst, setO_fn, setV_newL, setV_newD, setV_fn, setV_dat, setV_slot, setDs_nil, setDs_cons, setTg_name, setTg_names, seqOf_list, seqOf_tuple, tupOf_tuple, lstOf_lst, zipS_list, zipS_tuple, ownL_eq, ownB_lst, ownB_io, ofOutIo_ok, oioB_io, oioB_lst, retV_dat, retV_newL, retV_slot, rtB_lst, ownOk_nil, ownOk_cons, ownF_un, ownF_dat, wipeB_nil, wipeB_cons, backB_nil, backB_cons, getD_some', and_tt, v_lenS, v_ixS, seqOf_sq, gdU_true, retO_some, end_ret, end_next, end_exc, ioS_io, ioS_dat, ioS_fn, ioS_exc, ioS_scr, ioOf_io, ioOf_dat, ioOf_fn, ioOf_exc, ioOf_scr, isIo_io, isIo_dat, isIo_fn, isIo_exc, isIo_scr, beq_self_eq_true, gdO_true, v_add, v_addL, v_addT, v_sub, v_mul, v_mulL, v_mulT, v_fdiv, v_mod, v_pow, v_lt, v_le, v_gt, v_ge, v_eq, v_ne, v_ixL, v_ixT, v_lenL, v_lenT, v_tupL, v_tupT, v_lstL, v_lstT, v_sum, v_sumT, v_all, v_any, v_neg, v_isN, v_notN, v_isT, v_notT, v_max, v_min, map_some', plain_one, isTys_one, List.getElem?_cons_zero, List.getElem?_cons_succ, List.set_cons_zero, List.set_cons_succ, List.cons_append, List.nil_append, List.map_cons, List.map_nil, arB, e_slcB, e_inRng, e_callV, e_callS, fnB_fn, i_wip, s_wipe, s_try, try_ret, try_exc, outR_ok, s_while, v_repr, v_revL, v_revT, v_intB, v_isF, v_notF, v_nil, cutT, cutL, cutN, cutS, cutD_list, List.replicate_succ, List.replicate_zero, c_steps_of, h2, List.length_map, hd, e1, hr1, hr2, show ((((ns.length - 1) / 2 + 1 : Nat) : Int) - 1).toNat = (ns.length - 1) / 2 by omega]
  generalize hM : loopC _ _ _ _ = M
  have := comp_eq hM (fun d => match d with
    | .int i => .int (t.getD i.toNat 0 - t.getD (i.toNat - 1) 0)
    | d => d) fun d hd => by
      obtain ⟨i, rfl, hi⟩ := iota_mem hd
      have e2 : (1 : Int) + (i : Int) = ((i + 1 : Nat) : Int) := by omega
      have e3 : ((i + 1 : Nat) : Int) - 1 = (i : Int) := by omega
      rw [e2]
      simp only [e_var, e_cst, e_gfn, e_op2, e_fn1, e_fn2, e_isi, e_and, e_or, e_not, e_ite, e_chain, e_lst, e_tup, e_emp, e_nil, e_cons, e_slcL, e_slcU, e_call, e_callIo, e_comp, e_compIf, i_of, i_rng1, i_rng2, i_enum, i_zip, s_nil, s_cons, s_set, s_unp, s_par, s_drop, s_ret, s_ite, s_for, s_raise, s_app, s_sti, t_C, t_If, t_F, look_dat, look_lst, look_dct, look_io, look_fn, look_exc, look_scr, ioCall_lst, ioCall_io, stB_lst, stB_io, seq_next, seq_ret, seq_exc, R.bind_ok, R.bind_exc, oR_some, oO_some, noX_ok, gd_true, br_true, br_false, tru_bool, intOf_int, ofO_some, ofS_some, ofOut_ok, ofOut_exc, op2_dat, op2_newL, op2_slot, opd_some, fn1_dat, fn1_newL, fn1_slot, fnd_some, fn1_scr, op2_scr', fn2_dat, peek_dat', peek_newL, peek_slot, pkB_lst, pkB_io, isi_dat, frz_dat, frz_newL, frz_newD, frz_slot, fzB_lst, frzs_nil, frzs_cons, args_nil, args_fn, args_scr, args_dat, args_newL, args_newD, args_slot, setB_eq, setO_un, setO_dat, setO_lst, setO_fn, setV_newL, setV_newD, setV_fn, setV_dat, setV_slot, setDs_nil, setDs_cons, setTg_name, setTg_names, seqOf_list, seqOf_tuple, tupOf_tuple, lstOf_lst, zipS_list, zipS_tuple, ownL_eq, ownB_lst, ownB_io, ofOutIo_ok, oioB_io, oioB_lst, retV_dat, retV_newL, retV_slot, rtB_lst, ownOk_nil, ownOk_cons, ownF_un, ownF_dat, wipeB_nil, wipeB_cons, backB_nil, backB_cons, getD_some', and_tt, v_lenS, v_ixS, seqOf_sq, gdU_true, retO_some, end_ret, end_next, end_exc, ioS_io, ioS_dat, ioS_fn, ioS_exc, ioS_scr, ioOf_io, ioOf_dat, ioOf_fn, ioOf_exc, ioOf_scr, isIo_io, isIo_dat, isIo_fn, isIo_exc, isIo_scr, beq_self_eq_true, gdO_true, v_add, v_addL, v_addT, v_sub, v_mul, v_mulL, v_mulT, v_fdiv, v_mod, v_pow, v_lt, v_le, v_gt, v_ge, v_eq, v_ne, v_ixL, v_ixT, v_lenL, v_lenT, v_tupL, v_tupT, v_lstL, v_lstT, v_sum, v_sumT, v_all, v_any, v_neg, v_isN, v_notN, v_isT, v_notT, v_max, v_min, map_some', plain_one, isTys_one, List.getElem?_cons_zero, List.getElem?_cons_succ, List.set_cons_zero, List.set_cons_succ, List.cons_append, List.nil_append, List.map_cons, List.map_nil, arB, e_slcB, e_inRng, e_callV, e_callS, fnB_fn, i_wip, s_wipe, s_try, try_ret, try_exc, outR_ok, s_while, v_repr, v_revL, v_revT, v_intB, v_isF, v_notF, v_nil, cutT, cutL, cutN, cutS, cutD_list, List.replicate_succ, List.replicate_zero, e3, atI_map' (show i + 1 < t.length by omega), atI_map' (show i < t.length by omega)]
      rfl
  subst this
  rw [iota_map (g := fun i => .int (t.getD (i + 1) 0 - t.getD i 0)) fun i _ => by
    show PyData.int (t.getD (1 + (i : Int)).toNat 0 - t.getD ((1 + (i : Int)).toNat - 1) 0) = _
    rw [show (1 + (i : Int)).toNat = i + 1 by omega]; rfl]
  have a0 : L2.atI (t.map PyData.int) 0 = some (.int (t.getD 0 0)) := atI_map' (i := 0) (by omega)
  simp only [e_var, e_cst, e_gfn, e_op2, e_fn1, e_fn2, e_isi, e_and, e_or, e_not, e_ite, e_chain, e_lst, e_tup, e_emp, e_nil, e_cons, e_slcL, e_slcU, e_call, e_callIo, e_comp, e_compIf, i_of, i_rng1, i_rng2, i_enum, i_zip, s_nil, s_cons, s_set, s_unp, s_par, s_drop, s_ret, s_ite, s_for, s_raise, s_app, s_sti, t_C, t_If, t_F, look_dat, look_lst, look_dct, look_io, look_fn, look_exc, look_scr, ioCall_lst, ioCall_io, stB_lst, stB_io, seq_next, seq_ret, seq_exc, R.bind_ok, R.bind_exc, oR_some, oO_some, noX_ok, gd_true, br_true, br_false, tru_bool, intOf_int, ofO_some, ofS_some, ofOut_ok, ofOut_exc, op2_dat, op2_newL, op2_slot, opd_some, fn1_dat, fn1_newL, fn1_slot, fnd_some, fn1_scr, op2_scr', fn2_dat, peek_dat', peek_newL, peek_slot, pkB_lst, pkB_io, isi_dat, frz_dat, frz_newL, frz_newD, frz_slot, fzB_lst, frzs_nil, frzs_cons, args_nil, args_fn, args_scr, args_dat, args_newL, args_newD, args_slot, setB_eq, setO_un, setO_dat, setO_lst, setO_fn, setV_newL, setV_newD, setV_fn, setV_dat, setV_slot, setDs_nil, setDs_cons, setTg_name, setTg_names, seqOf_list, seqOf_tuple, tupOf_tuple, lstOf_lst, zipS_list, zipS_tuple, ownL_eq, ownB_lst, ownB_io, ofOutIo_ok, oioB_io, oioB_lst, retV_dat, retV_newL, retV_slot, rtB_lst, ownOk_nil, ownOk_cons, ownF_un, ownF_dat, wipeB_nil, wipeB_cons, backB_nil, backB_cons, getD_some', and_tt, v_lenS, v_ixS, seqOf_sq, gdU_true, retO_some, end_ret, end_next, end_exc, ioS_io, ioS_dat, ioS_fn, ioS_exc, ioS_scr, ioOf_io, ioOf_dat, ioOf_fn, ioOf_exc, ioOf_scr, isIo_io, isIo_dat, isIo_fn, isIo_exc, isIo_scr, beq_self_eq_true, gdO_true, v_add, v_addL, v_addT, v_sub, v_mul, v_mulL, v_mulT, v_fdiv, v_mod, v_pow, v_lt, v_le, v_gt, v_ge, v_eq, v_ne, v_ixL, v_ixT, v_lenL, v_lenT, v_tupL, v_tupT, v_lstL, v_lstT, v_sum, v_sumT, v_all, v_any, v_neg, v_isN, v_notN, v_isT, v_notT, v_max, v_min, map_some', plain_one, isTys_one, List.getElem?_cons_zero, List.getElem?_cons_succ, List.set_cons_zero, List.set_cons_succ, List.cons_append, List.nil_append, List.map_cons, List.map_nil, arB, e_slcB, e_inRng, e_callV, e_callS, fnB_fn, i_wip, s_wipe, s_try, try_ret, try_exc, outR_ok, s_while, v_repr, v_revL, v_revT, v_intB, v_isF, v_notF, v_nil, cutT, cutL, cutN, cutS, cutD_list, List.replicate_succ, List.replicate_zero, a0, List.length_cons, List.length_nil, List.length_map, List.length_range, show lenOk (0 + 1) = true by decide, lenOk_of' (show 0 + 1 + (ns.length - 1) / 2 ≤ 1000000 by omega)]
  unfold stL
  rw [hl, List.map_cons, List.map_map]
  rfl
theorem p_steps (hP : P n_steps = some d_steps) (hc : P n_check_row = some d_check_row) (hr : P n_is_row = some d_is_row) (hn : P n_are_numbers = some d_are_numbers) (hw : P n_is_whole = some d_is_whole) (hs : P n_steps_of = some d_steps_of) (ho : P n_turned_of = some d_turned_of) (hb : P n_turned_by = some d_turned_by) (hy : P n_ways = some d_ways)
    {ns : List Int} {b : Nat} (h : RowOk ns) (hB : Bd b ns) (hb2 : b ≤ 9000) : Spec P 5 n_steps [.dat (tupI ns)] (.ok (.dat (tupI (stL (trL (ns.length - 1 : Nat) ns)))) []) := by
  refine spec_of hP rfl fun K hK => ?_
  have h1 := p_check_row hc hr hn hw h K hK
  have h2 := p_steps_of hs ho hb hy h hB hb2 K (by omega)
  simp only [e_var, e_cst, e_gfn, e_op2, e_fn1, e_fn2, e_isi, e_and, e_or, e_not, e_ite, e_chain, e_lst, e_tup, e_emp, e_nil, e_cons, e_slcL, e_slcU, e_call, e_callIo, e_comp, e_compIf, i_of, i_rng1, i_rng2, i_enum, i_zip, s_nil, s_cons, s_set, s_unp, s_par, s_drop, s_ret, s_ite, s_for, s_raise, s_app, s_sti, t_C, t_If, t_F, look_dat, look_lst, look_dct, look_io, look_fn, look_exc, look_scr, ioCall_lst, ioCall_io, stB_lst, stB_io, seq_next, seq_ret, seq_exc, R.bind_ok, R.bind_exc, oR_some, oO_some, noX_ok, gd_true, br_true, br_false, tru_bool, intOf_int, ofO_some, ofS_some, ofOut_ok, ofOut_exc, op2_dat, op2_newL, op2_slot, opd_some, fn1_dat, fn1_newL, fn1_slot, fnd_some, fn1_scr, op2_scr', fn2_dat, peek_dat', peek_newL, peek_slot, pkB_lst, pkB_io, isi_dat, frz_dat, frz_newL, frz_newD, frz_slot, fzB_lst, frzs_nil, frzs_cons, args_nil, args_fn, args_scr, args_dat, args_newL, args_newD, args_slot, setB_eq, setO_un, setO_dat, setO_lst, setO_fn, setV_newL, setV_newD, setV_fn, setV_dat, setV_slot, setDs_nil, setDs_cons, setTg_name, setTg_names, seqOf_list, seqOf_tuple, tupOf_tuple, lstOf_lst, zipS_list, zipS_tuple, ownL_eq, ownB_lst, ownB_io, ofOutIo_ok, oioB_io, oioB_lst, retV_dat, retV_newL, retV_slot, rtB_lst, ownOk_nil, ownOk_cons, ownF_un, ownF_dat, wipeB_nil, wipeB_cons, backB_nil, backB_cons, getD_some', and_tt, v_lenS, v_ixS, seqOf_sq, gdU_true, retO_some, end_ret, end_next, end_exc, ioS_io, ioS_dat, ioS_fn, ioS_exc, ioS_scr, ioOf_io, ioOf_dat, ioOf_fn, ioOf_exc, ioOf_scr, isIo_io, isIo_dat, isIo_fn, isIo_exc, isIo_scr, beq_self_eq_true, gdO_true, v_add, v_addL, v_addT, v_sub, v_mul, v_mulL, v_mulT, v_fdiv, v_mod, v_pow, v_lt, v_le, v_gt, v_ge, v_eq, v_ne, v_ixL, v_ixT, v_lenL, v_lenT, v_tupL, v_tupT, v_lstL, v_lstT, v_sum, v_sumT, v_all, v_any, v_neg, v_isN, v_notN, v_isT, v_notT, v_max, v_min, map_some', plain_one, isTys_one, List.getElem?_cons_zero, List.getElem?_cons_succ, List.set_cons_zero, List.set_cons_succ, List.cons_append, List.nil_append, List.map_cons, List.map_nil, arB, e_slcB, e_inRng, e_callV, e_callS, fnB_fn, i_wip, s_wipe, s_try, try_ret, try_exc, outR_ok, s_while, v_repr, v_revL, v_revT, v_intB, v_isF, v_notF, v_nil, cutT, cutL, cutN, cutS, cutD_list, List.replicate_succ, List.replicate_zero, c_steps, h1, h2]
theorem bd_getD {ns : List Int} {b i : Nat} (h : Bd b ns) : (ns.getD i 0).natAbs < 2 ^ b := by
  by_cases hi : i < ns.length
  · exact h _ (getD_mem hi)
  · have : ns.getD i 0 = 0 := by simp [List.getD, List.getElem?_eq_none (Nat.le_of_not_lt hi)]
    rw [this]
    exact Nat.two_pow_pos b
theorem bd_evL {f : List Int} {w b : Nat} (h : Bd b f) : Bd b (evL w f) := by
  intro n hn
  obtain ⟨p, _, rfl⟩ := List.mem_map.mp hn
  exact bd_getD h
theorem p_even_of (hP : P n_even_of = some d_even_of) (hk : P n_back_of = some d_back_of) (hy : P n_ways = some d_ways) {w : Nat} {f : List Int} {b : Nat} {q : Bool} (h1 : w ≤ 11) (h2 : w / 2 + 1 ≤ f.length) (hB : Bd b f) (hb2 : b ≤ 9000) :
    Spec P 3 n_even_of [.dat (.int (w : Nat)), .dat (sq q (f.map .int))] (.ok (.dat (tupI (bkL (evL w f)))) []) := by
  refine spec_of hP rfl fun K hK => ?_
  have hr : rngOk ((w : Int) + 1) = true := rngOk_of' (by omega) (by omega)
  simp only [e_var, e_cst, e_gfn, e_op2, e_fn1, e_fn2, e_isi, e_and, e_or, e_not, e_ite, e_chain, e_lst, e_tup, e_emp, e_nil, e_cons, e_slcL, e_slcU, e_call, e_callIo, e_comp, e_compIf, i_of, i_rng1, i_rng2, i_enum, i_zip, s_nil, s_cons, s_set, s_unp, s_par, s_drop, s_ret, s_ite, s_for, s_raise, s_app, s_sti, t_C, t_If, t_F, look_dat, look_lst, look_dct, look_io, look_fn, look_exc, look_scr, ioCall_lst, ioCall_io, stB_lst, stB_io, seq_next, seq_ret, seq_exc, R.bind_ok, R.bind_exc, oR_some, oO_some, noX_ok, gd_true, br_true, br_false, tru_bool, intOf_int, ofO_some, ofS_some, ofOut_ok, ofOut_exc, op2_dat, op2_newL, op2_slot, opd_some, fn1_dat, fn1_newL, fn1_slot, fnd_some, fn1_scr, op2_scr', fn2_dat, peek_dat', peek_newL, peek_slot, pkB_lst, pkB_io, isi_dat, frz_dat, frz_newL, frz_newD, frz_slot, fzB_lst, frzs_nil, frzs_cons, args_nil, args_fn, args_scr, args_dat, args_newL, args_newD, args_slot, setB_eq, setO_un, setO_dat, setO_lst, setO_fn, setV_newL, setV_newD, setV_fn, setV_dat, setV_slot, setDs_nil, setDs_cons, setTg_name, setTg_names, seqOf_list, seqOf_tuple, tupOf_tuple, lstOf_lst, zipS_list, zipS_tuple, ownL_eq, ownB_lst, ownB_io, ofOutIo_ok, oioB_io, oioB_lst, retV_dat, retV_newL, retV_slot, rtB_lst, ownOk_nil, ownOk_cons, ownF_un, ownF_dat, wipeB_nil, wipeB_cons, backB_nil, backB_cons, getD_some', and_tt, v_lenS, v_ixS, seqOf_sq, gdU_true, retO_some, end_ret, end_next, end_exc, ioS_io, ioS_dat, ioS_fn, ioS_exc, ioS_scr, ioOf_io, ioOf_dat, ioOf_fn, ioOf_exc, ioOf_scr, isIo_io, isIo_dat, isIo_fn, isIo_exc, isIo_scr, beq_self_eq_true, gdO_true, v_add, v_addL, v_addT, v_sub, v_mul, v_mulL, v_mulT, v_fdiv, v_mod, v_pow, v_lt, v_le, v_gt, v_ge, v_eq, v_ne, v_ixL, v_ixT, v_lenL, v_lenT, v_tupL, v_tupT, v_lstL, v_lstT, v_sum, v_sumT, v_all, v_any, v_neg, v_isN, v_notN, v_isT, v_notT, v_max, v_min, map_some', plain_one, isTys_one, List.getElem?_cons_zero, List.getElem?_cons_succ, List.set_cons_zero, List.set_cons_succ, List.cons_append, List.nil_append, List.map_cons, List.map_nil, arB, e_slcB, e_inRng, e_callV, e_callS, fnB_fn, i_wip, s_wipe, s_try, try_ret, try_exc, outR_ok, s_while, v_repr, v_revL, v_revT, v_intB, v_isF, v_notF, v_nil, cutT, cutL, cutN, cutS, cutD_list, List.replicate_succ, List.replicate_zero, c_even_of, List.length_nil, lenOk_of' (Nat.zero_le _), hr, show ((w : Int) + 1).toNat = w + 1 by omega]
  generalize hL : loopF _ _ _ = L
  obtain ⟨s', rfl, qq⟩ := loop_eq hL (fun k s => k ≤ w + 1 ∧ ∃ b3, s = [.dat (.int (w : Nat)), .dat (sq q (f.map .int)), .lst (((List.range k).map fun p => f.getD (min p (w - p)) 0).map .int), b3] ∧ loose b3) ⟨Nat.zero_le _, .un, rfl, trivial⟩ (fun k x s hx hq => by
      obtain ⟨hk, b3, rfl, l3⟩ := hq
      obtain ⟨rfl, hlt⟩ := iota_get0 hx
      have e1 : (if (w : Int) - (k : Int) < (k : Int) then (w : Int) - (k : Int) else (k : Int)) = ((min k (w - k) : Nat) : Int) := by
        split <;> omega
      simp only [e_var, e_cst, e_gfn, e_op2, e_fn1, e_fn2, e_isi, e_and, e_or, e_not, e_ite, e_chain, e_lst, e_tup, e_emp, e_nil, e_cons, e_slcL, e_slcU, e_call, e_callIo, e_comp, e_compIf, i_of, i_rng1, i_rng2, i_enum, i_zip, s_nil, s_cons, s_set, s_unp, s_par, s_drop, s_ret, s_ite, s_for, s_raise, s_app, s_sti, t_C, t_If, t_F, look_dat, look_lst, look_dct, look_io, look_fn, look_exc, look_scr, ioCall_lst, ioCall_io, stB_lst, stB_io, seq_next, seq_ret, seq_exc, R.bind_ok, R.bind_exc, oR_some, oO_some, noX_ok, gd_true, br_true, br_false, tru_bool, intOf_int, ofO_some, ofS_some, ofOut_ok, ofOut_exc, op2_dat, op2_newL, op2_slot, opd_some, fn1_dat, fn1_newL, fn1_slot, fnd_some, fn1_scr, op2_scr', fn2_dat, peek_dat', peek_newL, peek_slot, pkB_lst, pkB_io, isi_dat, frz_dat, frz_newL, frz_newD, frz_slot, fzB_lst, frzs_nil, frzs_cons, args_nil, args_fn, args_scr, args_dat, args_newL, args_newD, args_slot, setB_eq, setO_un, setO_dat, setO_lst, setO_fn, setV_newL, setV_newD, setV_fn, setV_dat, setV_slot, setDs_nil, setDs_cons, setTg_name, setTg_names, seqOf_list, seqOf_tuple, tupOf_tuple, lstOf_lst, zipS_list, zipS_tuple, ownL_eq, ownB_lst, ownB_io, ofOutIo_ok, oioB_io, oioB_lst, retV_dat, retV_newL, retV_slot, rtB_lst, ownOk_nil, ownOk_cons, ownF_un, ownF_dat, wipeB_nil, wipeB_cons, backB_nil, backB_cons, getD_some', and_tt, v_lenS, v_ixS, seqOf_sq, gdU_true, retO_some, end_ret, end_next, end_exc, ioS_io, ioS_dat, ioS_fn, ioS_exc, ioS_scr, ioOf_io, ioOf_dat, ioOf_fn, ioOf_exc, ioOf_scr, isIo_io, isIo_dat, isIo_fn, isIo_exc, isIo_scr, beq_self_eq_true, gdO_true, v_add, v_addL, v_addT, v_sub, v_mul, v_mulL, v_mulT, v_fdiv, v_mod, v_pow, v_lt, v_le, v_gt, v_ge, v_eq, v_ne, v_ixL, v_ixT, v_lenL, v_lenT, v_tupL, v_tupT, v_lstL, v_lstT, v_sum, v_sumT, v_all, v_any, v_neg, v_isN, v_notN, v_isT, v_notT, v_max, v_min, map_some', plain_one, isTys_one, List.getElem?_cons_zero, List.getElem?_cons_succ, List.set_cons_zero, List.set_cons_succ, List.cons_append, List.nil_append, List.map_cons, List.map_nil, arB, e_slcB, e_inRng, e_callV, e_callS, fnB_fn, i_wip, s_wipe, s_try, try_ret, try_exc, outR_ok, s_while, v_repr, v_revL, v_revT, v_intB, v_isF, v_notF, v_nil, cutT, cutL, cutN, cutS, cutD_list, List.replicate_succ, List.replicate_zero, setO_loose l3, e1, atI_map' (show min k (w - k) < f.length by omega), List.length_map, List.length_range, lenOk_of' (show k + 1 ≤ 1000000 by omega)]
      refine ⟨_, rfl, by omega, .dat (.int (k : Nat)), ?_, trivial⟩
      rw [List.range_succ, List.map_append, List.map_append]
      rfl)
  obtain ⟨_, b3, rfl, l3⟩ := qq
  rw [iota_len]
  have h3 := p_back_of (q := false) (ns := evL w f) hk hy (by rw [evL_len]; omega) (bd_evL hB) hb2 K hK
  rw [sq_false] at h3
  unfold evL at h3 ⊢
  simp only [e_var, e_cst, e_gfn, e_op2, e_fn1, e_fn2, e_isi, e_and, e_or, e_not, e_ite, e_chain, e_lst, e_tup, e_emp, e_nil, e_cons, e_slcL, e_slcU, e_call, e_callIo, e_comp, e_compIf, i_of, i_rng1, i_rng2, i_enum, i_zip, s_nil, s_cons, s_set, s_unp, s_par, s_drop, s_ret, s_ite, s_for, s_raise, s_app, s_sti, t_C, t_If, t_F, look_dat, look_lst, look_dct, look_io, look_fn, look_exc, look_scr, ioCall_lst, ioCall_io, stB_lst, stB_io, seq_next, seq_ret, seq_exc, R.bind_ok, R.bind_exc, oR_some, oO_some, noX_ok, gd_true, br_true, br_false, tru_bool, intOf_int, ofO_some, ofS_some, ofOut_ok, ofOut_exc, op2_dat, op2_newL, op2_slot, opd_some, fn1_dat, fn1_newL, fn1_slot, fnd_some, fn1_scr, op2_scr', fn2_dat, peek_dat', peek_newL, peek_slot, pkB_lst, pkB_io, isi_dat, frz_dat, frz_newL, frz_newD, frz_slot, fzB_lst, frzs_nil, frzs_cons, args_nil, args_fn, args_scr, args_dat, args_newL, args_newD, args_slot, setB_eq, setO_un, setO_dat, setO_lst, setO_fn, setV_newL, setV_newD, setV_fn, setV_dat, setV_slot, setDs_nil, setDs_cons, setTg_name, setTg_names, seqOf_list, seqOf_tuple, tupOf_tuple, lstOf_lst, zipS_list, zipS_tuple, ownL_eq, ownB_lst, ownB_io, ofOutIo_ok, oioB_io, oioB_lst, retV_dat, retV_newL, retV_slot, rtB_lst, ownOk_nil, ownOk_cons, ownF_un, ownF_dat, wipeB_nil, wipeB_cons, backB_nil, backB_cons, getD_some', and_tt, v_lenS, v_ixS, seqOf_sq, gdU_true, retO_some, end_ret, end_next, end_exc, ioS_io, ioS_dat, ioS_fn, ioS_exc, ioS_scr, ioOf_io, ioOf_dat, ioOf_fn, ioOf_exc, ioOf_scr, isIo_io, isIo_dat, isIo_fn, isIo_exc, isIo_scr, beq_self_eq_true, gdO_true, v_add, v_addL, v_addT, v_sub, v_mul, v_mulL, v_mulT, v_fdiv, v_mod, v_pow, v_lt, v_le, v_gt, v_ge, v_eq, v_ne, v_ixL, v_ixT, v_lenL, v_lenT, v_tupL, v_tupT, v_lstL, v_lstT, v_sum, v_sumT, v_all, v_any, v_neg, v_isN, v_notN, v_isT, v_notT, v_max, v_min, map_some', plain_one, isTys_one, List.getElem?_cons_zero, List.getElem?_cons_succ, List.set_cons_zero, List.set_cons_succ, List.cons_append, List.nil_append, List.map_cons, List.map_nil, arB, e_slcB, e_inRng, e_callV, e_callS, fnB_fn, i_wip, s_wipe, s_try, try_ret, try_exc, outR_ok, s_while, v_repr, v_revL, v_revT, v_intB, v_isF, v_notF, v_nil, cutT, cutL, cutN, cutS, cutD_list, List.replicate_succ, List.replicate_zero, h3]
theorem p_by_steps_ofQ (hP : P n_by_steps_of = some d_by_steps_of) (he : P n_even_of = some d_even_of) (hk : P n_back_of = some d_back_of) (hy : P n_ways = some d_ways) {w : Nat} {ns : List Int} {b : Nat} (q : Bool) (h1 : w ≤ 11) (h2 : ns.length = w / 2 + 1) (hB : Bd b (psum ns)) (hb2 : b ≤ 9000) :
    Spec P 4 n_by_steps_of [.dat (.int (w : Nat)), .dat (sq q (ns.map .int))] (.ok (.dat (tupI (bkL (evL w (psum ns))))) []) := by
  refine spec_of hP rfl fun K hK => ?_
  unfold tupI
  simp only [e_var, e_cst, e_gfn, e_op2, e_fn1, e_fn2, e_isi, e_and, e_or, e_not, e_ite, e_chain, e_lst, e_tup, e_emp, e_nil, e_cons, e_slcL, e_slcU, e_call, e_callIo, e_comp, e_compIf, i_of, i_rng1, i_rng2, i_enum, i_zip, s_nil, s_cons, s_set, s_unp, s_par, s_drop, s_ret, s_ite, s_for, s_raise, s_app, s_sti, t_C, t_If, t_F, look_dat, look_lst, look_dct, look_io, look_fn, look_exc, look_scr, ioCall_lst, ioCall_io, stB_lst, stB_io, seq_next, seq_ret, seq_exc, R.bind_ok, R.bind_exc, oR_some, oO_some, noX_ok, gd_true, br_true, br_false, tru_bool, intOf_int, ofO_some, ofS_some, ofOut_ok, ofOut_exc, op2_dat, op2_newL, op2_slot, opd_some, fn1_dat, fn1_newL, fn1_slot, fnd_some, fn1_scr, op2_scr', fn2_dat, peek_dat', peek_newL, peek_slot, pkB_lst, pkB_io, isi_dat, frz_dat, frz_newL, frz_newD, frz_slot, fzB_lst, frzs_nil, frzs_cons, args_nil, args_fn, args_scr, args_dat, args_newL, args_newD, args_slot, setB_eq, setO_un, setO_dat, setO_lst, setO_fn, setV_newL, setV_newD, setV_fn, setV_dat, setV_slot, setDs_nil, setDs_cons, setTg_name, setTg_names, seqOf_list, seqOf_tuple, tupOf_tuple, lstOf_lst, zipS_list, zipS_tuple, ownL_eq, ownB_lst, ownB_io, ofOutIo_ok, oioB_io, oioB_lst, retV_dat, retV_newL, retV_slot, rtB_lst, ownOk_nil, ownOk_cons, ownF_un, ownF_dat, wipeB_nil, wipeB_cons, backB_nil, backB_cons, getD_some', and_tt, v_lenS, v_ixS, seqOf_sq, gdU_true, retO_some, end_ret, end_next, end_exc, ioS_io, ioS_dat, ioS_fn, ioS_exc, ioS_scr, ioOf_io, ioOf_dat, ioOf_fn, ioOf_exc, ioOf_scr, isIo_io, isIo_dat, isIo_fn, isIo_exc, isIo_scr, beq_self_eq_true, gdO_true, v_add, v_addL, v_addT, v_sub, v_mul, v_mulL, v_mulT, v_fdiv, v_mod, v_pow, v_lt, v_le, v_gt, v_ge, v_eq, v_ne, v_ixL, v_ixT, v_lenL, v_lenT, v_tupL, v_tupT, v_lstL, v_lstT, v_sum, v_sumT, v_all, v_any, v_neg, v_isN, v_notN, v_isT, v_notT, v_max, v_min, map_some', plain_one, isTys_one, List.getElem?_cons_zero, List.getElem?_cons_succ, List.set_cons_zero, List.set_cons_succ, List.cons_append, List.nil_append, List.map_cons, List.map_nil, arB, e_slcB, e_inRng, e_callV, e_callS, fnB_fn, i_wip, s_wipe, s_try, try_ret, try_exc, outR_ok, s_while, v_repr, v_revL, v_revT, v_intB, v_isF, v_notF, v_nil, cutT, cutL, cutN, cutS, cutD_list, List.replicate_succ, List.replicate_zero, c_by_steps_of, List.length_nil, lenOk_of' (Nat.zero_le _)]
  generalize hL : loopF _ _ _ = L
  obtain ⟨s', rfl, qq⟩ := loop_eq hL (fun k s => k ≤ ns.length ∧ ∃ b4, s = [.dat (.int (w : Nat)), .dat (sq q (ns.map .int)), .lst (((List.range k).map fun k => sumR (k + 1) fun i => ns.getD i 0).map .int), .dat (.int (sumR k fun i => ns.getD i 0)), b4] ∧ loose b4) ⟨Nat.zero_le _, .un, rfl, trivial⟩ (fun k x s hx hq => by
      obtain ⟨hk, b4, rfl, l4⟩ := hq
      have hkl : k < ns.length := by
        have := (List.getElem?_eq_some_iff.mp hx).1
        rw [List.length_map] at this; exact this
      have ex : x = .int (ns.getD k 0) := by
        rw [List.getElem?_map, List.getElem?_eq_getElem hkl] at hx
        cases hx
        simp [List.getD, hkl]
      subst ex
      simp only [e_var, e_cst, e_gfn, e_op2, e_fn1, e_fn2, e_isi, e_and, e_or, e_not, e_ite, e_chain, e_lst, e_tup, e_emp, e_nil, e_cons, e_slcL, e_slcU, e_call, e_callIo, e_comp, e_compIf, i_of, i_rng1, i_rng2, i_enum, i_zip, s_nil, s_cons, s_set, s_unp, s_par, s_drop, s_ret, s_ite, s_for, s_raise, s_app, s_sti, t_C, t_If, t_F, look_dat, look_lst, look_dct, look_io, look_fn, look_exc, look_scr, ioCall_lst, ioCall_io, stB_lst, stB_io, seq_next, seq_ret, seq_exc, R.bind_ok, R.bind_exc, oR_some, oO_some, noX_ok, gd_true, br_true, br_false, tru_bool, intOf_int, ofO_some, ofS_some, ofOut_ok, ofOut_exc, op2_dat, op2_newL, op2_slot, opd_some, fn1_dat, fn1_newL, fn1_slot, fnd_some, fn1_scr, op2_scr', fn2_dat, peek_dat', peek_newL, peek_slot, pkB_lst, pkB_io, isi_dat, frz_dat, frz_newL, frz_newD, frz_slot, fzB_lst, frzs_nil, frzs_cons, args_nil, args_fn, args_scr, args_dat, args_newL, args_newD, args_slot, setB_eq, setO_un, setO_dat, setO_lst, setO_fn, setV_newL, setV_newD, setV_fn, setV_dat, setV_slot, setDs_nil, setDs_cons, setTg_name, setTg_names, seqOf_list, seqOf_tuple, tupOf_tuple, lstOf_lst, zipS_list, zipS_tuple, ownL_eq, ownB_lst, ownB_io, ofOutIo_ok, oioB_io, oioB_lst, retV_dat, retV_newL, retV_slot, rtB_lst, ownOk_nil, ownOk_cons, ownF_un, ownF_dat, wipeB_nil, wipeB_cons, backB_nil, backB_cons, getD_some', and_tt, v_lenS, v_ixS, seqOf_sq, gdU_true, retO_some, end_ret, end_next, end_exc, ioS_io, ioS_dat, ioS_fn, ioS_exc, ioS_scr, ioOf_io, ioOf_dat, ioOf_fn, ioOf_exc, ioOf_scr, isIo_io, isIo_dat, isIo_fn, isIo_exc, isIo_scr, beq_self_eq_true, gdO_true, v_add, v_addL, v_addT, v_sub, v_mul, v_mulL, v_mulT, v_fdiv, v_mod, v_pow, v_lt, v_le, v_gt, v_ge, v_eq, v_ne, v_ixL, v_ixT, v_lenL, v_lenT, v_tupL, v_tupT, v_lstL, v_lstT, v_sum, v_sumT, v_all, v_any, v_neg, v_isN, v_notN, v_isT, v_notT, v_max, v_min, map_some', plain_one, isTys_one, List.getElem?_cons_zero, List.getElem?_cons_succ, List.set_cons_zero, List.set_cons_succ, List.cons_append, List.nil_append, List.map_cons, List.map_nil, arB, e_slcB, e_inRng, e_callV, e_callS, fnB_fn, i_wip, s_wipe, s_try, try_ret, try_exc, outR_ok, s_while, v_repr, v_revL, v_revT, v_intB, v_isF, v_notF, v_nil, cutT, cutL, cutN, cutS, cutD_list, List.replicate_succ, List.replicate_zero, setO_loose l4, List.length_map, List.length_range, lenOk_of' (show k + 1 ≤ 1000000 by omega)]
      refine ⟨_, rfl, by omega, .dat (.int (ns.getD k 0)), ?_, trivial⟩
      rw [List.range_succ, List.map_append, List.map_append]
      rfl)
  obtain ⟨_, b4, rfl, l4⟩ := qq
  rw [List.length_map]
  have h3 := p_even_of (q := false) (f := psum ns) he hk hy h1 (by rw [psum_len]; omega) hB hb2 K hK
  rw [sq_false] at h3
  unfold psum tupI at h3
  unfold psum
  simp only [e_var, e_cst, e_gfn, e_op2, e_fn1, e_fn2, e_isi, e_and, e_or, e_not, e_ite, e_chain, e_lst, e_tup, e_emp, e_nil, e_cons, e_slcL, e_slcU, e_call, e_callIo, e_comp, e_compIf, i_of, i_rng1, i_rng2, i_enum, i_zip, s_nil, s_cons, s_set, s_unp, s_par, s_drop, s_ret, s_ite, s_for, s_raise, s_app, s_sti, t_C, t_If, t_F, look_dat, look_lst, look_dct, look_io, look_fn, look_exc, look_scr, ioCall_lst, ioCall_io, stB_lst, stB_io, seq_next, seq_ret, seq_exc, R.bind_ok, R.bind_exc, oR_some, oO_some, noX_ok, gd_true, br_true, br_false, tru_bool, intOf_int, ofO_some, ofS_some, ofOut_ok, ofOut_exc, op2_dat, op2_newL, op2_slot, opd_some, fn1_dat, fn1_newL, fn1_slot, fnd_some, fn1_scr, op2_scr', fn2_dat, peek_dat', peek_newL, peek_slot, pkB_lst, pkB_io, isi_dat, frz_dat, frz_newL, frz_newD, frz_slot, fzB_lst, frzs_nil, frzs_cons, args_nil, args_fn, args_scr, args_dat, args_newL, args_newD, args_slot, setB_eq, setO_un, setO_dat, setO_lst, setO_fn, setV_newL, setV_newD, setV_fn, setV_dat, setV_slot, setDs_nil, setDs_cons, setTg_name, setTg_names, seqOf_list, seqOf_tuple, tupOf_tuple, lstOf_lst, zipS_list, zipS_tuple, ownL_eq, ownB_lst, ownB_io, ofOutIo_ok, oioB_io, oioB_lst, retV_dat, retV_newL, retV_slot, rtB_lst, ownOk_nil, ownOk_cons, ownF_un, ownF_dat, wipeB_nil, wipeB_cons, backB_nil, backB_cons, getD_some', and_tt, v_lenS, v_ixS, seqOf_sq, gdU_true, retO_some, end_ret, end_next, end_exc, ioS_io, ioS_dat, ioS_fn, ioS_exc, ioS_scr, ioOf_io, ioOf_dat, ioOf_fn, ioOf_exc, ioOf_scr, isIo_io, isIo_dat, isIo_fn, isIo_exc, isIo_scr, beq_self_eq_true, gdO_true, v_add, v_addL, v_addT, v_sub, v_mul, v_mulL, v_mulT, v_fdiv, v_mod, v_pow, v_lt, v_le, v_gt, v_ge, v_eq, v_ne, v_ixL, v_ixT, v_lenL, v_lenT, v_tupL, v_tupT, v_lstL, v_lstT, v_sum, v_sumT, v_all, v_any, v_neg, v_isN, v_notN, v_isT, v_notT, v_max, v_min, map_some', plain_one, isTys_one, List.getElem?_cons_zero, List.getElem?_cons_succ, List.set_cons_zero, List.set_cons_succ, List.cons_append, List.nil_append, List.map_cons, List.map_nil, arB, e_slcB, e_inRng, e_callV, e_callS, fnB_fn, i_wip, s_wipe, s_try, try_ret, try_exc, outR_ok, s_while, v_repr, v_revL, v_revT, v_intB, v_isF, v_notF, v_nil, cutT, cutL, cutN, cutS, cutD_list, List.replicate_succ, List.replicate_zero, h3]
theorem p_by_steps_of (hP : P n_by_steps_of = some d_by_steps_of) (he : P n_even_of = some d_even_of) (hk : P n_back_of = some d_back_of) (hy : P n_ways = some d_ways) {w : Nat} {ns : List Int} {b : Nat} (h1 : w ≤ 11) (h2 : ns.length = w / 2 + 1) (hB : Bd b (psum ns)) (hb2 : b ≤ 9000) :
    Spec P 4 n_by_steps_of [.dat (.int (w : Nat)), .dat (tupI ns)] (.ok (.dat (tupI (bkL (evL w (psum ns))))) []) := p_by_steps_ofQ hP he hk hy true h1 h2 hB hb2
theorem p_check_half (hP : P n_check_half = some d_check_half) (hu : P n_is_upto = some d_is_upto) (hn : P n_are_numbers = some d_are_numbers) (hw : P n_is_whole = some d_is_whole) {w : Nat} {ns : List Int} (h1 : w ≤ 11) (h2 : ns.length = w / 2 + 1) :
    Spec P 3 n_check_half [.dat (.int (w : Nat)), .dat (tupI ns)] (.ok (.dat .none) []) := by
  refine spec_of hP rfl fun K hK => ?_
  have e1 := p_is_upto hu hw (w : Nat) 0 11 K hK
  rw [decide_eq_true (show (0 : Int) ≤ (w : Nat) by omega), decide_eq_true (show ((w : Nat) : Int) ≤ 11 by omega)] at e1
  have e2 := p_are_numbers hn hw (ns.map .int) ((w : Int) / 2 + 1) K hK
  rw [all_int, List.length_map, decide_eq_true (show (ns.length : Int) = (w : Int) / 2 + 1 by omega)] at e2
  have hd : divOk 2 = true := by decide +kernel
  unfold tupI
  simp only [e_var, e_cst, e_gfn, e_op2, e_fn1, e_fn2, e_isi, e_and, e_or, e_not, e_ite, e_chain, e_lst, e_tup, e_emp, e_nil, e_cons, e_slcL, e_slcU, e_call, e_callIo, e_comp, e_compIf, i_of, i_rng1, i_rng2, i_enum, i_zip, s_nil, s_cons, s_set, s_unp, s_par, s_drop, s_ret, s_ite, s_for, s_raise, s_app, s_sti, t_C, t_If, t_F, look_dat, look_lst, look_dct, look_io, look_fn, look_exc, look_scr, ioCall_lst, ioCall_io, stB_lst, stB_io, seq_next, seq_ret, seq_exc, R.bind_ok, R.bind_exc, oR_some, oO_some, noX_ok, gd_true, br_true, br_false, tru_bool, intOf_int, ofO_some, ofS_some, ofOut_ok, ofOut_exc, op2_dat, op2_newL, op2_slot, opd_some, fn1_dat, fn1_newL, fn1_slot, fnd_some, fn1_scr, op2_scr', fn2_dat, peek_dat', peek_newL, peek_slot, pkB_lst, pkB_io, isi_dat, frz_dat, frz_newL, frz_newD, frz_slot, fzB_lst, frzs_nil, frzs_cons, args_nil, args_fn, args_scr, args_dat, args_newL, args_newD, args_slot, setB_eq, setO_un, setO_dat, setO_lst, setO_fn, setV_newL, setV_newD, setV_fn, setV_dat, setV_slot, setDs_nil, setDs_cons, setTg_name, setTg_names, seqOf_list, seqOf_tuple, tupOf_tuple, lstOf_lst, zipS_list, zipS_tuple, ownL_eq, ownB_lst, ownB_io, ofOutIo_ok, oioB_io, oioB_lst, retV_dat, retV_newL, retV_slot, rtB_lst, ownOk_nil, ownOk_cons, ownF_un, ownF_dat, wipeB_nil, wipeB_cons, backB_nil, backB_cons, getD_some', and_tt, v_lenS, v_ixS, seqOf_sq, gdU_true, retO_some, end_ret, end_next, end_exc, ioS_io, ioS_dat, ioS_fn, ioS_exc, ioS_scr, ioOf_io, ioOf_dat, ioOf_fn, ioOf_exc, ioOf_scr, isIo_io, isIo_dat, isIo_fn, isIo_exc, isIo_scr, beq_self_eq_true, gdO_true, v_add, v_addL, v_addT, v_sub, v_mul, v_mulL, v_mulT, v_fdiv, v_mod, v_pow, v_lt, v_le, v_gt, v_ge, v_eq, v_ne, v_ixL, v_ixT, v_lenL, v_lenT, v_tupL, v_tupT, v_lstL, v_lstT, v_sum, v_sumT, v_all, v_any, v_neg, v_isN, v_notN, v_isT, v_notT, v_max, v_min, map_some', plain_one, isTys_one, List.getElem?_cons_zero, List.getElem?_cons_succ, List.set_cons_zero, List.set_cons_succ, List.cons_append, List.nil_append, List.map_cons, List.map_nil, arB, e_slcB, e_inRng, e_callV, e_callS, fnB_fn, i_wip, s_wipe, s_try, try_ret, try_exc, outR_ok, s_while, v_repr, v_revL, v_revT, v_intB, v_isF, v_notF, v_nil, cutT, cutL, cutN, cutS, cutD_list, List.replicate_succ, List.replicate_zero, c_check_half, e1, e2, hd, Bool.and_self, Bool.not_true]
theorem p_by_steps (hP : P n_by_steps = some d_by_steps) (hc : P n_check_half = some d_check_half) (hu : P n_is_upto = some d_is_upto) (hn : P n_are_numbers = some d_are_numbers) (hw : P n_is_whole = some d_is_whole) (hs : P n_by_steps_of = some d_by_steps_of) (he : P n_even_of = some d_even_of) (hk : P n_back_of = some d_back_of) (hy : P n_ways = some d_ways) {w : Nat} {ns : List Int} {b : Nat} (h1 : w ≤ 11) (h2 : ns.length = w / 2 + 1) (hB : Bd b (psum ns)) (hb2 : b ≤ 9000) :
    Spec P 5 n_by_steps [.dat (.int (w : Nat)), .dat (tupI ns)] (.ok (.dat (tupI (bkL (evL w (psum ns))))) []) := by
  refine spec_of hP rfl fun K hK => ?_
  have e1 := p_check_half hc hu hn hw h1 h2 K (by omega)
  have e2 := p_by_steps_of hs he hk hy h1 h2 hB hb2 K (by omega)
  simp only [e_var, e_cst, e_gfn, e_op2, e_fn1, e_fn2, e_isi, e_and, e_or, e_not, e_ite, e_chain, e_lst, e_tup, e_emp, e_nil, e_cons, e_slcL, e_slcU, e_call, e_callIo, e_comp, e_compIf, i_of, i_rng1, i_rng2, i_enum, i_zip, s_nil, s_cons, s_set, s_unp, s_par, s_drop, s_ret, s_ite, s_for, s_raise, s_app, s_sti, t_C, t_If, t_F, look_dat, look_lst, look_dct, look_io, look_fn, look_exc, look_scr, ioCall_lst, ioCall_io, stB_lst, stB_io, seq_next, seq_ret, seq_exc, R.bind_ok, R.bind_exc, oR_some, oO_some, noX_ok, gd_true, br_true, br_false, tru_bool, intOf_int, ofO_some, ofS_some, ofOut_ok, ofOut_exc, op2_dat, op2_newL, op2_slot, opd_some, fn1_dat, fn1_newL, fn1_slot, fnd_some, fn1_scr, op2_scr', fn2_dat, peek_dat', peek_newL, peek_slot, pkB_lst, pkB_io, isi_dat, frz_dat, frz_newL, frz_newD, frz_slot, fzB_lst, frzs_nil, frzs_cons, args_nil, args_fn, args_scr, args_dat, args_newL, args_newD, args_slot, setB_eq, setO_un, setO_dat, setO_lst, setO_fn, setV_newL, setV_newD, setV_fn, setV_dat, setV_slot, setDs_nil, setDs_cons, setTg_name, setTg_names, seqOf_list, seqOf_tuple, tupOf_tuple, lstOf_lst, zipS_list, zipS_tuple, ownL_eq, ownB_lst, ownB_io, ofOutIo_ok, oioB_io, oioB_lst, retV_dat, retV_newL, retV_slot, rtB_lst, ownOk_nil, ownOk_cons, ownF_un, ownF_dat, wipeB_nil, wipeB_cons, backB_nil, backB_cons, getD_some', and_tt, v_lenS, v_ixS, seqOf_sq, gdU_true, retO_some, end_ret, end_next, end_exc, ioS_io, ioS_dat, ioS_fn, ioS_exc, ioS_scr, ioOf_io, ioOf_dat, ioOf_fn, ioOf_exc, ioOf_scr, isIo_io, isIo_dat, isIo_fn, isIo_exc, isIo_scr, beq_self_eq_true, gdO_true, v_add, v_addL, v_addT, v_sub, v_mul, v_mulL, v_mulT, v_fdiv, v_mod, v_pow, v_lt, v_le, v_gt, v_ge, v_eq, v_ne, v_ixL, v_ixT, v_lenL, v_lenT, v_tupL, v_tupT, v_lstL, v_lstT, v_sum, v_sumT, v_all, v_any, v_neg, v_isN, v_notN, v_isT, v_notT, v_max, v_min, map_some', plain_one, isTys_one, List.getElem?_cons_zero, List.getElem?_cons_succ, List.set_cons_zero, List.set_cons_succ, List.cons_append, List.nil_append, List.map_cons, List.map_nil, arB, e_slcB, e_inRng, e_callV, e_callS, fnB_fn, i_wip, s_wipe, s_try, try_ret, try_exc, outR_ok, s_while, v_repr, v_revL, v_revT, v_intB, v_isF, v_notF, v_nil, cutT, cutL, cutN, cutS, cutD_list, List.replicate_succ, List.replicate_zero, c_by_steps, e1, e2]
theorem p_by_half (hP : P n_by_half = some d_by_half) (hc : P n_check_half = some d_check_half) (hu : P n_is_upto = some d_is_upto) (hn : P n_are_numbers = some d_are_numbers) (hw : P n_is_whole = some d_is_whole) (ht : P n_turned_by = some d_turned_by) (he : P n_even_of = some d_even_of) (hk : P n_back_of = some d_back_of) (hy : P n_ways = some d_ways) {w : Nat} {ns : List Int} {b : Nat} (h1 : w ≤ 11) (h2 : ns.length = w / 2 + 1) (hB0 : Bd b ns) (hB : Bd b (trL (w : Nat) ns)) (hb2 : b ≤ 9000) :
    Spec P 5 n_by_half [.dat (.int (w : Nat)), .dat (tupI ns)] (.ok (.dat (tupI (bkL (evL w (trL (w : Nat) ns))))) []) := by
  refine spec_of hP rfl fun K hK => ?_
  have e1 := p_check_half hc hu hn hw h1 h2 K (by omega)
  have e2 := p_turned_by ht hy (w := (w : Nat)) (by omega) (by omega) hB0 hb2 K (by omega)
  have e3 := p_even_of (q := true) (f := trL (w : Nat) ns) he hk hy h1 (by rw [trL_len]; omega) hB hb2 K (by omega)
  rw [sq_true] at e3
  unfold tupI at e1 e2 ⊢
  unfold tupI at e3
  simp only [e_var, e_cst, e_gfn, e_op2, e_fn1, e_fn2, e_isi, e_and, e_or, e_not, e_ite, e_chain, e_lst, e_tup, e_emp, e_nil, e_cons, e_slcL, e_slcU, e_call, e_callIo, e_comp, e_compIf, i_of, i_rng1, i_rng2, i_enum, i_zip, s_nil, s_cons, s_set, s_unp, s_par, s_drop, s_ret, s_ite, s_for, s_raise, s_app, s_sti, t_C, t_If, t_F, look_dat, look_lst, look_dct, look_io, look_fn, look_exc, look_scr, ioCall_lst, ioCall_io, stB_lst, stB_io, seq_next, seq_ret, seq_exc, R.bind_ok, R.bind_exc, oR_some, oO_some, noX_ok, gd_true, br_true, br_false, tru_bool, intOf_int, ofO_some, ofS_some, ofOut_ok, ofOut_exc, op2_dat, op2_newL, op2_slot, opd_some, fn1_dat, fn1_newL, fn1_slot, fnd_some, fn1_scr, op2_scr', fn2_dat, peek_dat', peek_newL, peek_slot, pkB_lst, pkB_io, isi_dat, frz_dat, frz_newL, frz_newD, frz_slot, fzB_lst, frzs_nil, frzs_cons, args_nil, args_fn, args_scr, args_dat, args_newL, args_newD, args_slot, setB_eq, setO_un, setO_dat, setO_lst, setO_fn, setV_newL, setV_newD, setV_fn, setV_dat, setV_slot, setDs_nil, setDs_cons, setTg_name, setTg_names, seqOf_list, seqOf_tuple, tupOf_tuple, lstOf_lst, zipS_list, zipS_tuple, ownL_eq, ownB_lst, ownB_io, ofOutIo_ok, oioB_io, oioB_lst, retV_dat, retV_newL, retV_slot, rtB_lst, ownOk_nil, ownOk_cons, ownF_un, ownF_dat, wipeB_nil, wipeB_cons, backB_nil, backB_cons, getD_some', and_tt, v_lenS, v_ixS, seqOf_sq, gdU_true, retO_some, end_ret, end_next, end_exc, ioS_io, ioS_dat, ioS_fn, ioS_exc, ioS_scr, ioOf_io, ioOf_dat, ioOf_fn, ioOf_exc, ioOf_scr, isIo_io, isIo_dat, isIo_fn, isIo_exc, isIo_scr, beq_self_eq_true, gdO_true, v_add, v_addL, v_addT, v_sub, v_mul, v_mulL, v_mulT, v_fdiv, v_mod, v_pow, v_lt, v_le, v_gt, v_ge, v_eq, v_ne, v_ixL, v_ixT, v_lenL, v_lenT, v_tupL, v_tupT, v_lstL, v_lstT, v_sum, v_sumT, v_all, v_any, v_neg, v_isN, v_notN, v_isT, v_notT, v_max, v_min, map_some', plain_one, isTys_one, List.getElem?_cons_zero, List.getElem?_cons_succ, List.set_cons_zero, List.set_cons_succ, List.cons_append, List.nil_append, List.map_cons, List.map_nil, arB, e_slcB, e_inRng, e_callV, e_callS, fnB_fn, i_wip, s_wipe, s_try, try_ret, try_exc, outR_ok, s_while, v_repr, v_revL, v_revT, v_intB, v_isF, v_notF, v_nil, cutT, cutL, cutN, cutS, cutD_list, List.replicate_succ, List.replicate_zero, c_by_half, e1, e2, e3]
end
end Fc

/-! rows turned: the algebra -/
namespace Fc
open PySem
def lin (s : Int) (f : Nat → Int) : Nat → Int
  | 0 => f 0
  | k + 1 => f (k + 1) + s * f k
def dl (n k : Nat) : Int := if k = n then 1 else 0
def T (s : Int) : Nat → (Nat → Int) → Nat → Int
  | 0, _, _ => 0
  | n + 1, f, k => lin s (T s n f) k + f n * dl n k
theorem lin_congr {s : Int} {f g : Nat → Int} (h : ∀ k, f k = g k) (k : Nat) : lin s f k = lin s g k := by
  have : f = g := funext h
  rw [this]
theorem lin_add (s : Int) (f g : Nat → Int) (k : Nat) : lin s (fun k => f k + g k) k = lin s f k + lin s g k := by
  cases k with
  | zero => rfl
  | succ k => show f (k + 1) + g (k + 1) + s * (f k + g k) = (f (k + 1) + s * f k) + (g (k + 1) + s * g k); grind
theorem lin_mul (s c : Int) (f : Nat → Int) (k : Nat) : lin s (fun k => c * f k) k = c * lin s f k := by
  cases k with
  | zero => rfl
  | succ k => show c * f (k + 1) + s * (c * f k) = c * (f (k + 1) + s * f k); grind
theorem lin_comm (s t : Int) (f : Nat → Int) (k : Nat) : lin s (lin t f) k = lin t (lin s f) k := by
  match k with
  | 0 => rfl
  | 1 => show f 1 + t * f 0 + s * f 0 = f 1 + s * f 0 + t * f 0; grind
  | k + 2 => show f (k + 2) + t * f (k + 1) + s * (f (k + 1) + t * f k) = f (k + 2) + s * f (k + 1) + t * (f (k + 1) + s * f k); grind
theorem lin_dl (s : Int) (n k : Nat) : lin s (dl n) k = dl n k + s * dl (n + 1) k := by
  cases k with
  | zero => show dl n 0 = dl n 0 + s * dl (n + 1) 0; unfold dl; simp
  | succ k => show dl n (k + 1) + s * dl n k = dl n (k + 1) + s * dl (n + 1) (k + 1); unfold dl; simp
theorem T_supp (s : Int) (f : Nat → Int) : ∀ {n k : Nat}, n ≤ k → T s n f k = 0
  | 0, _, _ => rfl
  | n + 1, k, h => by
    obtain ⟨k, rfl⟩ : ∃ j, k = j + 1 := ⟨k - 1, by omega⟩
    show T s n f (k + 1) + s * T s n f k + f n * dl n (k + 1) = 0
    rw [T_supp s f (show n ≤ k + 1 by omega), T_supp s f (show n ≤ k by omega)]
    unfold dl
    rw [if_neg (by omega)]; simp
theorem T_congr (s : Int) {f g : Nat → Int} : ∀ {n : Nat}, (∀ i, i < n → f i = g i) → ∀ k, T s n f k = T s n g k
  | 0, _, _ => rfl
  | n + 1, h, k => by
    show lin s (T s n f) k + f n * dl n k = lin s (T s n g) k + g n * dl n k
    rw [lin_congr (T_congr s fun i hi => h i (by omega)) k, h n (by omega)]
theorem T_add (s : Int) (f g : Nat → Int) : ∀ (n k : Nat), T s n (fun i => f i + g i) k = T s n f k + T s n g k
  | 0, _ => rfl
  | n + 1, k => by
    show lin s (T s n fun i => f i + g i) k + (f n + g n) * dl n k = (lin s (T s n f) k + f n * dl n k) + (lin s (T s n g) k + g n * dl n k)
    rw [lin_congr (T_add s f g n) k, lin_add]; grind
theorem T_mul (s c : Int) (f : Nat → Int) : ∀ (n k : Nat), T s n (fun i => c * f i) k = c * T s n f k
  | 0, _ => by show (0 : Int) = c * 0; simp
  | n + 1, k => by
    show lin s (T s n fun i => c * f i) k + c * f n * dl n k = c * (lin s (T s n f) k + f n * dl n k)
    rw [lin_congr (T_mul s c f n) k, lin_mul]; grind
theorem T_zero (s : Int) (n k : Nat) : T s n (fun _ => 0) k = 0 := by
  have := T_mul s 0 (fun _ => 0) n k
  simpa using this
theorem T_dl (s : Int) (n k : Nat) : T s (n + 1) (dl n) k = dl n k := by
  show lin s (T s n (dl n)) k + dl n n * dl n k = dl n k
  have : ∀ k, T s n (dl n) k = 0 := fun k => by
    rw [T_congr s (g := fun _ => 0) (fun i hi => by unfold dl; rw [if_neg (by omega)]) k, T_zero]
  rw [lin_congr (g := fun _ => 0) this k]
  have : lin s (fun _ => 0) k = 0 := by cases k <;> simp [lin]
  rw [this]
  unfold dl
  simp
theorem T_lin (s t : Int) : ∀ (n : Nat) (g : Nat → Int), (∀ i, n ≤ i → g i = 0) → ∀ k, T t (n + 1) (lin s g) k = lin (s + t) (T t n g) k
  | 0, g, h, k => by
    show lin t (fun _ => 0) k + lin s g 0 * dl 0 k = lin (s + t) (fun _ => 0) k
    have : lin s g 0 = 0 := h 0 (Nat.le_refl _)
    rw [this]
    cases k <;> simp [lin]
  | n + 1, g, h, k => by
    have hg : ∀ k, T t (n + 1) (lin s g) k = lin (s + t) (T t n g) k + g n * dl n k := fun k => by
      let g' : Nat → Int := fun i => if i < n then g i else 0
      have e1 : ∀ i, i < n + 1 → lin s g i = lin s g' i + g n * dl n i := fun i hi => by
        cases i with
        | zero =>
          show g 0 = (if 0 < n then g 0 else 0) + g n * dl n 0
          unfold dl
          by_cases z : n = 0
          · subst z; simp
          · rw [if_pos (by omega), if_neg (by omega)]; simp
        | succ i =>
          show g (i + 1) + s * g i = (if i + 1 < n then g (i + 1) else 0) + s * (if i < n then g i else 0) + g n * dl n (i + 1)
          unfold dl
          by_cases z : i + 1 = n
          · subst z; simp; grind
          · rw [if_pos (show i + 1 < n by omega), if_pos (show i < n by omega), if_neg z]; simp
      rw [T_congr t e1 k, T_add t (lin s g') (fun i => g n * dl n i) (n + 1) k, T_mul, T_dl, T_lin s t n g' (fun i hi => if_neg (by omega)) k]
      rw [lin_congr (T_congr t (f := g') (g := g) fun i hi => if_pos hi) k]
    show lin t (T t (n + 1) (lin s g)) k + lin s g (n + 1) * dl (n + 1) k = lin (s + t) (T t (n + 1) g) k
    have e2 : lin s g (n + 1) = s * g n := by
      show g (n + 1) + s * g n = _
      rw [h (n + 1) (Nat.le_refl _)]; simp
    rw [lin_congr hg k, lin_add, lin_mul, lin_dl, e2]
    have e3 : lin (s + t) (T t (n + 1) g) k = lin (s + t) (fun k => lin t (T t n g) k + g n * dl n k) k := rfl
    rw [e3, lin_add, lin_mul, lin_dl, lin_comm]
    grind
theorem lin_zero (f : Nat → Int) (k : Nat) : lin 0 f k = f k := by cases k <;> simp [lin]
theorem T_inv (s : Int) (f : Nat → Int) : ∀ {n k : Nat}, k < n → T (-s) n (T s n f) k = f k
  | n + 1, k, hk => by
    have e1 : ∀ k, T (-s) (n + 1) (T s (n + 1) f) k = T (-s) n (T s n f) k + f n * dl n k := fun k => by
      show T (-s) (n + 1) (fun k => lin s (T s n f) k + f n * dl n k) k = _
      rw [T_add, T_mul, T_dl, T_lin s (-s) n (T s n f) (fun i hi => T_supp s f hi) k]
      rw [show s + -s = 0 by omega, lin_zero]
    rw [e1]
    by_cases h : k < n
    · rw [T_inv s f h]
      unfold dl
      rw [if_neg (by omega)]; simp
    · have : k = n := by omega
      subst this
      rw [T_supp (-s) _ (Nat.le_refl _)]
      unfold dl
      simp
/-! ### by the ways to choose -/
theorem sumR_add : ∀ (n : Nat) (f g : Nat → Int), sumR n (fun i => f i + g i) = sumR n f + sumR n g
  | 0, _, _ => rfl
  | n + 1, f, g => by show sumR n _ + (f n + g n) = sumR n f + f n + (sumR n g + g n); rw [sumR_add n f g]; omega
theorem sumR_mul (c : Int) : ∀ (n : Nat) (f : Nat → Int), sumR n (fun i => c * f i) = c * sumR n f
  | 0, _ => by show (0 : Int) = c * 0; simp
  | n + 1, f => by show sumR n _ + c * f n = c * (sumR n f + f n); rw [sumR_mul c n f, Int.mul_add]
theorem sumR_zero : ∀ (n : Nat), sumR n (fun _ => 0) = 0
  | 0 => rfl
  | n + 1 => by show sumR n _ + 0 = 0; rw [sumR_zero n]; rfl
def tm (s : Int) (w : Nat) (f : Nat → Int) (k i : Nat) : Int := f i * s ^ (k - i) * (chs (w - i) (k - i) : Nat)
theorem chs_self : ∀ n, chs n n = 1
  | 0 => rfl
  | n + 1 => by show chs n n + chs n (n + 1) = 1; rw [chs_self n, chs_lt (Nat.lt_succ_self n)]
theorem T_sum (s : Int) (f : Nat → Int) : ∀ (w k : Nat), k ≤ w → T s (w + 1) f k = sumR (k + 1) (tm s w f k)
  | w, 0, _ => by
    show lin s (T s w f) 0 + f w * dl w 0 = 0 + f 0 * s ^ (0 - 0) * (chs (w - 0) (0 - 0) : Nat)
    cases w with
    | zero => show (0 : Int) + f 0 * dl 0 0 = _; unfold dl; simp [chs]
    | succ w =>
      show T s (w + 1) f 0 + f (w + 1) * dl (w + 1) 0 = _
      rw [T_sum s f w 0 (Nat.zero_le _)]
      show 0 + f 0 * s ^ (0 - 0) * (chs (w - 0) (0 - 0) : Nat) + f (w + 1) * dl (w + 1) 0 = _
      unfold dl
      simp [chs_zero]
  | 0, k + 1, h => by omega
  | w + 1, k + 1, h => by
    show T s (w + 1) f (k + 1) + s * T s (w + 1) f k + f (w + 1) * dl (w + 1) (k + 1) = sumR (k + 1) (tm s (w + 1) f (k + 1)) + tm s (w + 1) f (k + 1) (k + 1)
    have hk := T_sum s f w k (by omega)
    have pas : ∀ i, i < k + 1 → tm s (w + 1) f (k + 1) i = f i * s ^ (k + 1 - i) * (chs (w - i) (k + 1 - i) : Nat) + s * tm s w f k i := fun i hi => by
      unfold tm
      have e1 : w + 1 - i = (w - i) + 1 := by omega
      have e2 : k + 1 - i = (k - i) + 1 := by omega
      rw [e1, e2]
      show f i * s ^ (k - i + 1) * ((chs (w - i) (k - i) + chs (w - i) (k - i + 1) : Nat) : Int) = _
      rw [Int.natCast_add, Int.pow_succ]
      grind
    rw [sumR_congr pas, sumR_add, sumR_mul, ← hk]
    have last : tm s (w + 1) f (k + 1) (k + 1) = f (k + 1) := by
      unfold tm
      rw [Nat.sub_self, chs_zero]; simp
    rw [last]
    by_cases hw : k + 1 ≤ w
    · rw [T_sum s f w (k + 1) hw]
      show sumR (k + 1) (tm s w f (k + 1)) + tm s w f (k + 1) (k + 1) + _ + _ = _
      have last2 : tm s w f (k + 1) (k + 1) = f (k + 1) := by
        unfold tm
        rw [Nat.sub_self, chs_zero]; simp
      rw [last2]
      unfold dl
      rw [if_neg (by omega)]
      have : sumR (k + 1) (tm s w f (k + 1)) = sumR (k + 1) fun i => f i * s ^ (k + 1 - i) * (chs (w - i) (k + 1 - i) : Nat) := rfl
      rw [this]
      omega
    · have e : w = k := by omega
      subst e
      rw [T_supp s f (Nat.le_refl _)]
      have z : sumR (w + 1) (fun i => f i * s ^ (w + 1 - i) * (chs (w - i) (w + 1 - i) : Nat)) = 0 := by
        rw [sumR_congr (g := fun _ => 0) fun i hi => by rw [chs_lt (by omega)]; simp, sumR_zero]
      rw [z]
      unfold dl
      simp
/-! ### products -/
def cv (f g : Nat → Int) (k : Nat) : Int := sumR (k + 1) fun i => f i * g (k - i)
def sh (m : Nat) (g : Nat → Int) (k : Nat) : Int := if m ≤ k then g (k - m) else 0
theorem cv_congr {f f' g g' : Nat → Int} (h : ∀ i, f i = f' i) (h' : ∀ i, g i = g' i) (k : Nat) : cv f g k = cv f' g' k := by
  rw [show f = f' from funext h, show g = g' from funext h']
theorem sumR_head : ∀ (n : Nat) (f : Nat → Int), sumR (n + 1) f = f 0 + sumR n fun i => f (i + 1)
  | 0, f => by show 0 + f 0 = f 0 + 0; omega
  | n + 1, f => by
    show sumR (n + 1) f + f (n + 1) = f 0 + (sumR n (fun i => f (i + 1)) + f (n + 1))
    rw [sumR_head n f]; omega
theorem cv_lin (s : Int) (f g : Nat → Int) (k : Nat) : cv (lin s f) g k = lin s (cv f g) k := by
  cases k with
  | zero => rfl
  | succ k =>
    show sumR (k + 1 + 1) (fun i => lin s f i * g (k + 1 - i)) = cv f g (k + 1) + s * cv f g k
    rw [sumR_head]
    have : sumR (k + 1) (fun i => lin s f (i + 1) * g (k + 1 - (i + 1))) = sumR (k + 1) (fun i => f (i + 1) * g (k + 1 - (i + 1))) + s * cv f g k := by
      unfold cv
      rw [← sumR_mul, ← sumR_add]
      refine sumR_congr fun i hi => ?_
      show (f (i + 1) + s * f i) * g (k + 1 - (i + 1)) = _
      rw [show k + 1 - (i + 1) = k - i by omega]
      grind
    rw [this]
    show f 0 * g (k + 1 - 0) + _ = _
    unfold cv
    rw [sumR_head (k + 1)]
    omega
theorem cv_add (f f' g : Nat → Int) (k : Nat) : cv (fun i => f i + f' i) g k = cv f g k + cv f' g k := by
  unfold cv
  rw [← sumR_add]
  exact sumR_congr fun i _ => by rw [Int.add_mul]
theorem cv_mul (c : Int) (f g : Nat → Int) (k : Nat) : cv (fun i => c * f i) g k = c * cv f g k := by
  unfold cv
  rw [← sumR_mul]
  exact sumR_congr fun i _ => by rw [Int.mul_assoc]
theorem sumR_dl (m : Nat) (h : Nat → Int) : ∀ n, sumR n (fun i => dl m i * h i) = if m < n then h m else 0
  | 0 => by rw [if_neg (by omega)]; rfl
  | n + 1 => by
    show sumR n _ + dl m n * h n = _
    rw [sumR_dl m h n]
    unfold dl
    by_cases e : n = m
    · subst e; rw [if_neg (by omega), if_pos rfl, if_pos (by omega)]; omega
    · rw [if_neg e]
      by_cases l : m < n
      · rw [if_pos l, if_pos (by omega)]; omega
      · rw [if_neg l, if_neg (by omega)]; omega
theorem cv_dl (m : Nat) (g : Nat → Int) (k : Nat) : cv (dl m) g k = sh m g k := by
  unfold cv sh
  rw [sumR_dl m (fun i => g (k - i)) (k + 1)]
  by_cases h : m ≤ k
  · rw [if_pos (by omega), if_pos h]
  · rw [if_neg (by omega), if_neg h]
theorem lin_sh (s : Int) (m : Nat) (g : Nat → Int) (k : Nat) : lin s (sh m g) k = sh m (lin s g) k := by
  cases k with
  | zero =>
    show sh m g 0 = sh m (lin s g) 0
    unfold sh
    by_cases h : m ≤ 0
    · rw [if_pos h, if_pos h]
      have : m = 0 := by omega
      subst this; rfl
    · rw [if_neg h, if_neg h]
  | succ k =>
    show sh m g (k + 1) + s * sh m g k = sh m (lin s g) (k + 1)
    unfold sh
    by_cases h : m ≤ k
    · rw [if_pos (by omega), if_pos h, if_pos (by omega), show k + 1 - m = (k - m) + 1 by omega]; rfl
    · rw [if_neg h]
      by_cases e : m = k + 1
      · subst e; rw [if_pos (Nat.le_refl _), if_pos (Nat.le_refl _), Nat.sub_self]; show g 0 + s * 0 = g 0; simp
      · rw [if_neg (by omega), if_neg (by omega)]; simp
theorem sh_dl (m n k : Nat) : sh m (dl n) k = dl (m + n) k := by
  unfold sh dl
  by_cases h : m ≤ k
  · rw [if_pos h]
    by_cases e : k = m + n
    · rw [if_pos (by omega), if_pos e]
    · rw [if_neg (by omega), if_neg e]
  · rw [if_neg h, if_neg (by omega)]
theorem sh_add (m : Nat) (f g : Nat → Int) (k : Nat) : sh m (fun i => f i + g i) k = sh m f k + sh m g k := by
  unfold sh; split <;> simp
theorem sh_mul (m : Nat) (c : Int) (f : Nat → Int) (k : Nat) : sh m (fun i => c * f i) k = c * sh m f k := by
  unfold sh; split <;> simp
theorem T_sh (s : Int) (m : Nat) (g : Nat → Int) : ∀ (n k : Nat), T s (m + n) (sh m g) k = sh m (T s n g) k
  | 0, k => by
    rw [Nat.add_zero, T_congr s (g := fun _ => 0) (fun i hi => by unfold sh; rw [if_neg (by omega)]) k, T_zero]
    unfold sh
    split <;> rfl
  | n + 1, k => by
    show lin s (T s (m + n) (sh m g)) k + sh m g (m + n) * dl (m + n) k = sh m (fun k => lin s (T s n g) k + g n * dl n k) k
    rw [lin_congr (T_sh s m g n) k, lin_sh, sh_add, sh_mul, sh_dl]
    congr 2
    unfold sh
    rw [if_pos (by omega)]
    congr 1; omega
theorem T_cv (s : Int) (n : Nat) (g : Nat → Int) (hg : ∀ i, n ≤ i → g i = 0) : ∀ (m : Nat) (f : Nat → Int), (∀ i, m + 1 ≤ i → f i = 0) → ∀ k, T s (m + n) (cv f g) k = cv (T s (m + 1) f) (T s n g) k
  | 0, f, hf, k => by
    have e1 : ∀ i, f i = f 0 * dl 0 i := fun i => by
      cases i with
      | zero => unfold dl; simp
      | succ i => rw [hf (i + 1) (by omega)]; unfold dl; simp
    have e2 : ∀ i, cv f g i = f 0 * g i := fun i => by
      rw [cv_congr (f' := fun i => f 0 * dl 0 i) e1 (fun _ => rfl), cv_mul, cv_dl]
      unfold sh; simp
    have e3 : ∀ i, T s 1 f i = f 0 * dl 0 i := fun i => by
      show lin s (fun _ => 0) i + f 0 * dl 0 i = _
      cases i <;> simp [lin]
    rw [Nat.zero_add, T_congr s (fun i _ => e2 i) k, T_mul, cv_congr e3 (fun _ => rfl), cv_mul, cv_dl]
    unfold sh; simp
  | m + 1, f, hf, k => by
    let f' : Nat → Int := fun i => if i < m + 1 then f i else 0
    have e1 : ∀ i, f i = f' i + f (m + 1) * dl (m + 1) i := fun i => by
      show f i = (if i < m + 1 then f i else 0) + _
      unfold dl
      by_cases h1 : i < m + 1
      · rw [if_pos h1, if_neg (by omega)]; simp
      · rw [if_neg h1]
        by_cases h2 : i = m + 1
        · subst h2; simp
        · rw [if_neg h2, hf i (by omega)]; simp
    have hf' : ∀ i, m + 1 ≤ i → f' i = 0 := fun i hi => if_neg (by omega)
    have ih := T_cv s n g hg m f' hf'
    have z : cv f' g (m + n) = 0 := by
      unfold cv
      rw [sumR_congr (g := fun _ => 0) fun i hi => ?_, sumR_zero]
      by_cases h1 : i < m + 1
      · rw [hg (m + n - i) (by omega)]; simp
      · rw [hf' i (by omega)]; simp
    have e2 : ∀ i, cv f g i = cv f' g i + f (m + 1) * sh (m + 1) g i := fun i => by
      rw [cv_congr e1 (fun _ => rfl), cv_add, cv_mul, cv_dl]
    rw [T_congr s (fun i _ => e2 i) k, T_add, T_mul, T_sh]
    have e3 : T s (m + 1 + n) (cv f' g) k = lin s (cv (T s (m + 1) f') (T s n g)) k := by
      rw [show m + 1 + n = (m + n) + 1 by omega]
      show lin s (T s (m + n) (cv f' g)) k + cv f' g (m + n) * dl (m + n) k = _
      rw [z, lin_congr ih k]; simp
    rw [e3]
    have e4 : ∀ i, T s (m + 1 + 1) f i = lin s (T s (m + 1) f') i + f (m + 1) * dl (m + 1) i := fun i => by
      show lin s (T s (m + 1) f) i + f (m + 1) * dl (m + 1) i = _
      rw [lin_congr (T_congr s (f := f) (g := f') fun j hj => (if_pos hj).symm) i]
    rw [cv_congr e4 (fun _ => rfl), cv_add, cv_mul, cv_dl, cv_lin]
end Fc

/-! rows turned: lists -/
namespace Fc
open PySem
def gD (ns : List Int) : Nat → Int := fun i => ns.getD i 0
theorem gD_out {ns : List Int} {i : Nat} (h : ns.length ≤ i) : gD ns i = 0 := by simp [gD, List.getD, List.getElem?_eq_none h]
theorem ext_gD {a b : List Int} (hl : a.length = b.length) (h : ∀ k, k < a.length → gD a k = gD b k) : a = b := by
  apply List.ext_getElem hl
  intro k h1 h2
  have := h k h1
  simpa [gD, List.getD, h1, h2] using this
theorem gD_map {f : Nat → Int} {n k : Nat} (h : k < n) : gD ((List.range n).map f) k = f k := by
  simp [gD, List.getD, h]
theorem map_gD (ns : List Int) : (List.range ns.length).map (gD ns) = ns := by
  refine ext_gD (by simp) fun k hk => ?_
  rw [gD_map (by simpa using hk)]
theorem pow_neg1 (n : Nat) : (-1 : Int) ^ n = if n % 2 = 0 then 1 else -1 := by
  induction n with
  | zero => rfl
  | succ n ih =>
    rw [Int.pow_succ, ih]
    by_cases h : n % 2 = 0
    · rw [if_pos h, if_neg (by omega)]; rfl
    · rw [if_neg h, if_pos (by omega)]; rfl
theorem wys_nat {a b : Nat} (h : b ≤ a) : wys (a : Nat) (b : Nat) = (chs a b : Nat) := by
  unfold wys
  rw [if_neg (by omega)]
  rfl
theorem tr_T {W : Nat} {ns : List Int} {k : Nat} (hk : k ≤ W) : tr (W : Nat) ns k = T (-1) (W + 1) (gD ns) k := by
  rw [T_sum _ _ _ _ hk]
  refine sumR_congr fun i hi => ?_
  unfold trT tm sg
  have e1 : ((W : Nat) : Int) - (i : Int) = ((W - i : Nat) : Int) := by omega
  have e2 : ((k : Nat) : Int) - (i : Int) = ((k - i : Nat) : Int) := by omega
  rw [e1, e2, wys_nat (by omega), pow_neg1]
  show (if ((k - i : Nat) : Int) % 2 = 0 then gD ns i * _ else 0 - gD ns i * _) = _
  by_cases h : (k - i) % 2 = 0
  · rw [if_pos (by omega), if_pos h]; simp
  · rw [if_neg (by omega), if_neg h]; simp [Int.neg_mul]
theorem bk_T {ns : List Int} {k : Nat} (hk : k < ns.length) : bk ns k = T 1 ns.length (gD ns) k := by
  obtain ⟨W, hW⟩ : ∃ W, ns.length = W + 1 := ⟨ns.length - 1, by omega⟩
  rw [hW, T_sum _ _ _ _ (by omega)]
  refine sumR_congr fun i hi => ?_
  unfold bkT tm
  have e1 : ((ns.length : Nat) : Int) - 1 - (i : Int) = ((W - i : Nat) : Int) := by omega
  have e2 : ((k : Nat) : Int) - (i : Int) = ((k - i : Nat) : Int) := by omega
  rw [e1, e2, wys_nat (by omega), Int.one_pow, Int.mul_one]
  rfl
theorem trL_T {ns : List Int} : trL (ns.length - 1 : Nat) ns = (List.range ns.length).map (T (-1) ns.length (gD ns)) := by
  unfold trL
  refine List.map_congr_left fun k hk => ?_
  have := List.mem_range.mp hk
  rw [tr_T (by omega)]
  congr 1; omega
theorem bkL_T {ns : List Int} : bkL ns = (List.range ns.length).map (T 1 ns.length (gD ns)) := by
  unfold bkL
  exact List.map_congr_left fun k hk => bk_T (List.mem_range.mp hk)
theorem bkL_len (ns : List Int) : (bkL ns).length = ns.length := by unfold bkL; simp
theorem back_turned (ns : List Int) : bkL (trL (ns.length - 1 : Nat) ns) = ns := by
  refine ext_gD (by rw [bkL_len, trL_len]) fun k hk => ?_
  rw [bkL_len, trL_len] at hk
  rw [bkL_T, trL_len, gD_map hk, T_congr 1 (g := T (-1) ns.length (gD ns)) (fun i hi => by rw [trL_T, gD_map hi]) k]
  exact T_inv (-1) (gD ns) hk
theorem turned_back' (ns : List Int) : trL (ns.length - 1 : Nat) (bkL ns) = ns := by
  have e : trL (ns.length - 1 : Nat) (bkL ns) = trL ((bkL ns).length - 1 : Nat) (bkL ns) := by rw [bkL_len]
  rw [e]
  refine ext_gD (by rw [trL_len, bkL_len]) fun k hk => ?_
  rw [trL_len, bkL_len] at hk
  rw [trL_T, bkL_len, gD_map hk, T_congr (-1) (g := T 1 ns.length (gD ns)) (fun i hi => by rw [bkL_T, gD_map hi]) k]
  exact T_inv 1 (gD ns) hk
/-! ### bounds -/
theorem sumR_bd {B : Nat} : ∀ (n : Nat) {f : Nat → Int}, (∀ i, i < n → (f i).natAbs ≤ B) → (sumR n f).natAbs ≤ n * B
  | 0, _, _ => by show (0 : Int).natAbs ≤ _; simp
  | n + 1, f, h => by
    have h1 := sumR_bd n (f := f) fun i hi => h i (by omega)
    have h2 := h n (by omega)
    have h3 := Int.natAbs_add_le (sumR n f) (f n)
    show (sumR n f + f n).natAbs ≤ _
    rw [Nat.add_mul, Nat.one_mul]
    omega
theorem sg_abs (d x : Int) : (sg d x).natAbs = x.natAbs := by
  unfold sg
  split
  · rfl
  · omega
theorem mul_lt_pow {x y : Int} {a b : Nat} (h1 : x.natAbs < 2 ^ a) (h2 : y.natAbs < 2 ^ b) : (x * y).natAbs ≤ 2 ^ (a + b) := by
  rw [Int.natAbs_mul, Nat.pow_add]
  exact Nat.mul_le_mul (Nat.le_of_lt h1) (Nat.le_of_lt h2)
theorem twelve (n b : Nat) (h : n ≤ 12) : n * 2 ^ b < 2 ^ (b + 4) := by
  rw [Nat.pow_add]
  have := Nat.two_pow_pos b
  calc n * 2 ^ b ≤ 12 * 2 ^ b := Nat.mul_le_mul_right _ h
    _ < 2 ^ b * 2 ^ 4 := by omega
theorem bd_trL {b : Nat} {w : Int} {ns : List Int} (hb : Bd b ns) (hl : ns.length ≤ 12) (hw : w ≤ 10 ^ 13) : Bd (b + 604) (trL w ns) := by
  intro n hn
  obtain ⟨k, hk, rfl⟩ := List.mem_map.mp hn
  have hk := List.mem_range.mp hk
  refine Nat.lt_of_le_of_lt (sumR_bd (B := 2 ^ (b + 600)) (k + 1) fun i hi => ?_) ?_
  · unfold trT
    rw [sg_abs]
    exact mul_lt_pow (bd_getD hb) (wys_lt (by omega) (by omega))
  · exact twelve _ _ (by omega)
theorem bd_bkL {b : Nat} {ns : List Int} (hb : Bd b ns) (hl : ns.length ≤ 12) : Bd (b + 604) (bkL ns) := by
  intro n hn
  obtain ⟨k, hk, rfl⟩ := List.mem_map.mp hn
  have hk := List.mem_range.mp hk
  refine Nat.lt_of_le_of_lt (sumR_bd (B := 2 ^ (b + 600)) (k + 1) fun i hi => ?_) ?_
  · unfold bkT
    exact mul_lt_pow (bd_getD hb) (wys_lt (by omega) (by omega))
  · exact twelve _ _ (by omega)
theorem Bd.mono {a b : Nat} {ns : List Int} (h : Bd a ns) (hab : a ≤ b) : Bd b ns := fun n hn => Nat.lt_of_lt_of_le (h n hn) (Nat.pow_le_pow_right (by decide) hab)
/-! ### even rows -/
def Pal (h : List Int) : Prop := ∀ k, k < h.length → gD h k = gD h (h.length - 1 - k)
theorem unev_none {h : List Int} : ∀ {n k : Nat}, unev h k n = none → ∀ j, k ≤ j → j < k + n → gD h j = gD h (h.length - 1 - j)
  | 0, k, _, j, h1, h2 => by omega
  | n + 1, k, e, j, h1, h2 => by
    unfold unev at e
    by_cases hc : h.getD k 0 ≠ h.getD (h.length - 1 - k) 0
    · rw [if_pos hc] at e; cases e
    · rw [if_neg hc] at e
      by_cases hj : j = k
      · subst hj; exact Classical.byContradiction hc
      · exact unev_none e j (by omega) (by omega)
theorem unev_some {h : List Int} : ∀ {n k p : Nat}, unev h k n = some p → k ≤ p ∧ p < k + n ∧ gD h p ≠ gD h (h.length - 1 - p) ∧ ∀ j, k ≤ j → j < p → gD h j = gD h (h.length - 1 - j)
  | 0, _, _, e => by cases e
  | n + 1, k, p, e => by
    unfold unev at e
    by_cases hc : h.getD k 0 ≠ h.getD (h.length - 1 - k) 0
    · rw [if_pos hc] at e
      cases e
      exact ⟨Nat.le_refl _, by omega, hc, fun j h1 h2 => by omega⟩
    · rw [if_neg hc] at e
      obtain ⟨a, b, c, d⟩ := unev_some e
      refine ⟨by omega, by omega, c, fun j h1 h2 => ?_⟩
      by_cases hj : j = k
      · subst hj; exact Classical.byContradiction hc
      · exact d j (by omega) h2
theorem unev_pal {h : List Int} : unev h 0 h.length = none ↔ Pal h := by
  constructor
  · intro e k hk
    exact unev_none e k (Nat.zero_le _) (by omega)
  · intro hp
    cases e : unev h 0 h.length with
    | none => rfl
    | some p =>
      obtain ⟨_, b, c, _⟩ := unev_some e
      exact absurd (hp p (by omega)) c
theorem unev_half {h : List Int} {p : Nat} (e : unev h 0 h.length = some p) : 2 * p < h.length - 1 := by
  obtain ⟨_, b, c, d⟩ := unev_some e
  apply Classical.byContradiction
  intro hn
  by_cases e1 : h.length - 1 - p = p
  · rw [e1] at c; exact c rfl
  · have := d (h.length - 1 - p) (Nat.zero_le _) (by omega)
    rw [show h.length - 1 - (h.length - 1 - p) = p by omega] at this
    exact c this.symm
theorem psum_st {h : List Int} {k : Nat} (hk : k ≤ (h.length - 1) / 2) : gD (psum (stL h)) k = gD h k := by
  unfold psum
  rw [gD_map (by rw [stL_len]; omega)]
  induction k with
  | zero => show 0 + (stL h).getD 0 0 = _; simp [stL, gD]
  | succ k ih =>
    show sumR (k + 1) _ + (stL h).getD (k + 1) 0 = _
    rw [ih (by omega)]
    have : (stL h).getD (k + 1) 0 = h.getD (k + 1) 0 - h.getD k 0 := by
      unfold stL
      show (h.getD 0 0 :: (List.range ((h.length - 1) / 2)).map fun j => h.getD (j + 1) 0 - h.getD j 0).getD (k + 1) 0 = _
      have := gD_map (f := fun j => h.getD (j + 1) 0 - h.getD j 0) (show k < (h.length - 1) / 2 by omega)
      simpa [gD] using this
    rw [this]
    show gD h k + (gD h (k + 1) - gD h k) = gD h (k + 1)
    omega
theorem bd_psum {h : List Int} {b : Nat} (hb : Bd b h) : Bd b (psum (stL h)) := by
  intro n hn
  obtain ⟨k, hk, e⟩ := List.getElem_of_mem hn
  rw [psum_len, stL_len] at hk
  have : gD (psum (stL h)) k = n := by
    rw [← e]
    simp [gD, List.getD, psum_len, stL_len, hk]
  rw [← this, psum_st (by omega)]
  exact bd_getD hb
theorem evL_pal {h f : List Int} {w : Nat} (hw : h.length = w + 1) (hf : ∀ k, k ≤ w / 2 → gD f k = gD h k) : (evL w f = h ↔ Pal h) := by
  have ge : ∀ p, p < w + 1 → gD (evL w f) p = gD h (min p (w - p)) := fun p hp => by
    unfold evL
    rw [gD_map hp]
    exact hf _ (by omega)
  constructor
  · intro e k hk
    have h1 := ge k (by omega)
    have h2 := ge (w - k) (by omega)
    rw [e] at h1 h2
    rw [hw, show w + 1 - 1 - k = w - k by omega, h1, h2]
    congr 1; omega
  · intro hp
    refine ext_gD (by rw [evL_len, hw]) fun k hk => ?_
    rw [evL_len] at hk
    rw [ge k hk]
    by_cases hh : k ≤ w - k
    · rw [Nat.min_eq_left hh]
    · rw [Nat.min_eq_right (by omega), hp k (by omega), hw]
      congr 1
/-- the even row of a row's steps is it just where it is even -/
theorem steps_back {ns : List Int} (h1 : 1 ≤ ns.length) : bkL (evL (ns.length - 1) (psum (stL (trL (ns.length - 1 : Nat) ns)))) = ns ↔ Pal (trL (ns.length - 1 : Nat) ns) := by
  have hl := trL_len (ns.length - 1 : Nat) ns
  rw [← evL_pal (w := ns.length - 1) (f := psum (stL (trL (ns.length - 1 : Nat) ns))) (by rw [hl]; omega) (fun k hk => psum_st (by rw [hl]; omega))]
  constructor
  · intro e
    have := turned_back' (evL (ns.length - 1) (psum (stL (trL (ns.length - 1 : Nat) ns))))
    rw [e, evL_len, show ns.length - 1 + 1 - 1 = ns.length - 1 by omega] at this
    exact this.symm
  · intro e
    rw [e]
    exact back_turned ns
theorem half_back {ns : List Int} (h1 : 1 ≤ ns.length) (hp : Pal (trL (ns.length - 1 : Nat) ns)) : bkL (evL (ns.length - 1) (trL (ns.length - 1 : Nat) (ns.take ((ns.length - 1) / 2 + 1)))) = ns := by
  have hl := trL_len (ns.length - 1 : Nat) ns
  have : evL (ns.length - 1) (trL (ns.length - 1 : Nat) (ns.take ((ns.length - 1) / 2 + 1))) = trL (ns.length - 1 : Nat) ns := by
    refine (evL_pal (w := ns.length - 1) (by rw [hl]; omega) fun k hk => ?_).mpr hp
    have hlt : (ns.take ((ns.length - 1) / 2 + 1)).length = (ns.length - 1) / 2 + 1 := by rw [List.length_take]; omega
    unfold trL
    rw [hlt, gD_map (by omega), gD_map (by omega), tr_T (by omega), tr_T (by omega), T_sum _ _ _ _ (by omega), T_sum _ _ _ _ (by omega)]
    refine sumR_congr fun i hi => ?_
    unfold tm
    congr 2
    show (ns.take _).getD i 0 = ns.getD i 0
    simp [List.getD, List.getElem?_take_of_lt (show i < (ns.length - 1) / 2 + 1 by omega)]
  rw [this]
  exact back_turned ns
/-! ### products -/
def convL (a b : List Int) : List Int := (List.range (a.length + b.length - 1)).map (cv (gD a) (gD b))
theorem convL_len (a b : List Int) : (convL a b).length = a.length + b.length - 1 := by unfold convL; simp
theorem gD_conv {a b : List Int} (ha : 1 ≤ a.length) (hb : 1 ≤ b.length) (k : Nat) : gD (convL a b) k = cv (gD a) (gD b) k := by
  by_cases h : k < a.length + b.length - 1
  · exact gD_map h
  · rw [gD_out (by rw [convL_len]; omega)]
    unfold cv
    rw [sumR_congr (g := fun _ => 0) fun i hi => ?_, sumR_zero]
    by_cases hi : i < a.length
    · rw [gD_out (ns := b) (by omega)]; simp
    · rw [gD_out (ns := a) (by omega)]; simp
theorem turned_conv {a b : List Int} (ha : 1 ≤ a.length) (hb : 1 ≤ b.length) : trL ((convL a b).length - 1 : Nat) (convL a b) = convL (trL (a.length - 1 : Nat) a) (trL (b.length - 1 : Nat) b) := by
  refine ext_gD (by rw [trL_len, convL_len, convL_len, trL_len, trL_len]) fun k hk => ?_
  rw [trL_len] at hk
  rw [trL_T, gD_map hk, gD_conv (by rw [trL_len]; exact ha) (by rw [trL_len]; exact hb)]
  rw [T_congr (-1) (fun i _ => gD_conv ha hb i) k]
  rw [show (convL a b).length = (a.length - 1) + b.length by rw [convL_len]; omega]
  rw [T_cv (-1) b.length (gD b) (fun i hi => gD_out hi) (a.length - 1) (gD a) (fun i hi => gD_out (by omega)) k]
  rw [show a.length - 1 + 1 = a.length by omega]
  have e : ∀ (c : List Int) i, T (-1) c.length (gD c) i = gD (trL (c.length - 1 : Nat) c) i := fun c i => by
    by_cases h : i < c.length
    · rw [trL_T, gD_map h]
    · rw [T_supp _ _ (by omega), gD_out (by rw [trL_len]; omega)]
  exact cv_congr (e a) (e b) k
theorem sumR_tail {f : Nat → Int} {n : Nat} (h : ∀ i, n ≤ i → f i = 0) : ∀ {N : Nat}, n ≤ N → sumR N f = sumR n f
  | 0, hN => by
    have : n = 0 := by omega
    subst this; rfl
  | N + 1, hN => by
    by_cases e : n = N + 1
    · subst e; rfl
    · show sumR N f + f N = _
      rw [sumR_tail h (show n ≤ N by omega), h N (by omega)]; omega
theorem cv_fin {f g : Nat → Int} {m : Nat} (hf : ∀ i, m ≤ i → f i = 0) (k : Nat) : cv f g k = sumR m fun i => f i * sh i g k := by
  have h1 : cv f g k = sumR (k + 1) fun i => f i * sh i g k := sumR_congr fun i hi => by unfold sh; rw [if_pos (by omega)]
  rw [h1]
  by_cases h : m ≤ k + 1
  · exact sumR_tail (fun i hi => by rw [hf i hi]; simp) h
  · exact (sumR_tail (f := fun i => f i * sh i g k) (n := k + 1) (fun i hi => by unfold sh; rw [if_neg (by omega)]; simp) (by omega)).symm
theorem sumR_rev : ∀ (n : Nat) (f : Nat → Int), sumR n f = sumR n fun i => f (n - 1 - i)
  | 0, _ => rfl
  | n + 1, f => by
    rw [sumR_head n fun i => f (n + 1 - 1 - i)]
    show sumR n f + f n = f (n + 1 - 1 - 0) + sumR n fun i => f (n + 1 - 1 - (i + 1))
    rw [sumR_rev n f, show n + 1 - 1 - 0 = n by omega, Int.add_comm]
    congr 1
    exact sumR_congr fun i hi => by congr 1; omega
theorem pal_conv {a b : List Int} (ha : 1 ≤ a.length) (hb : 1 ≤ b.length) (pa : Pal a) (pb : Pal b) : Pal (convL a b) := by
  intro k hk
  rw [convL_len] at hk ⊢
  rw [gD_conv ha hb, gD_conv ha hb]
  rw [cv_fin (m := a.length) fun i hi => gD_out hi, cv_fin (m := a.length) fun i hi => gD_out hi]
  rw [sumR_rev]
  refine sumR_congr fun i hi => ?_
  rw [← pa i hi]
  congr 1
  unfold sh
  by_cases h1 : a.length - 1 - i ≤ k
  · rw [if_pos h1]
    by_cases h2 : k - (a.length - 1 - i) < b.length
    · rw [if_pos (by omega), pb _ h2]
      congr 1; omega
    · rw [gD_out (by omega)]
      by_cases h3 : i ≤ a.length + b.length - 1 - 1 - k
      · omega
      · rw [if_neg h3]
  · rw [if_neg h1]
    by_cases h3 : i ≤ a.length + b.length - 1 - 1 - k
    · rw [if_pos h3, gD_out (by omega)]
    · rw [if_neg h3]
end Fc

/-! what the laws' own defs do -/
namespace Fc
open PySem
theorem ixN_m1 {n : Nat} (h : 0 < n) : L2.ixN n (-1) = some (n - 1) := by
  unfold L2.ixN
  rw [if_neg (by decide), if_pos (by omega)]
  congr 1; omega
theorem ixN_nat {n i : Nat} (h : i < n) : L2.ixN n (i : Int) = some i := by
  unfold L2.ixN
  rw [if_pos (by omega), if_pos (by omega)]
  rfl
theorem atI_m1 {α : Type} {xs : List α} (h : 0 < xs.length) : L2.atI xs (-1) = xs[xs.length - 1]? := by
  unfold L2.atI
  rw [ixN_m1 h]
  rfl
theorem range_set {α : Type} {F : Nat → α} {n p : Nat} {v : α} : ((List.range n).map F).set p v = (List.range n).map fun k => if k = p then v else F k := by
  apply List.ext_getElem (by simp)
  intro k h1 h2
  rw [List.getElem_set]
  by_cases h : p = k
  · subst h; simp
  · rw [if_neg h]
    simp [Ne.symm h]
def potM (c : Int) (j : Nat) : Int := ((c % 2147483629 + 7919 * ((j : Nat) : Int) + 1) * 48271 % 2147483647 * ((c % 2147483629 + 7919 * ((j : Nat) : Int) + 1) * 48271 % 2147483647) + 69621 * ((j : Nat) : Int) + 7) % 2147483587
def potR (c : Int) : Nat → Int
  | 0 => 0
  | i + 1 => potR c i * 2147483587 + potM c i
theorem potR_bd (c : Int) : ∀ i, 0 ≤ potR c i ∧ potR c i < ((2147483587 ^ i : Nat) : Int)
  | 0 => ⟨Int.le_refl _, by show (0 : Int) < _; decide⟩
  | i + 1 => by
    obtain ⟨h1, h2⟩ := potR_bd c i
    have h3 : 0 ≤ potM c i := Int.emod_nonneg _ (by decide)
    have h4 : potM c i < 2147483587 := Int.emod_lt_of_pos _ (by decide)
    show 0 ≤ potR c i * 2147483587 + potM c i ∧ potR c i * 2147483587 + potM c i < _
    rw [Nat.pow_succ]
    generalize 2147483587 ^ i = N at *
    generalize potM c i = m at *
    constructor
    · omega
    · omega
section
variable {P : Nat → Option Fd}
theorem p_take (hP : P n__law_take = some d__law_take) (p f : Int) (h1 : 0 < f) (h2 : divOk f = true) : Spec P 1 n__law_take [.io [.int p], .dat (.int f)] (.ok (.dat (.int (p % f))) [.int (p / f)]) := by
  refine spec_of hP rfl fun K hK => ?_
  have a0 : ∀ x : D, L2.atI [x] 0 = some x := fun _ => rfl
  have i0 : ∀ n : Nat, L2.ixN (n + 1) 0 = some 0 := fun n => ixN_nat (n := n + 1) (i := 0) (by omega)
  simp only [e_var, e_cst, e_gfn, e_op2, e_fn1, e_fn2, e_isi, e_and, e_or, e_not, e_ite, e_chain, e_lst, e_tup, e_emp, e_nil, e_cons, e_slcL, e_slcU, e_call, e_callIo, e_comp, e_compIf, i_of, i_rng1, i_rng2, i_enum, i_zip, s_nil, s_cons, s_set, s_unp, s_par, s_drop, s_ret, s_ite, s_for, s_raise, s_app, s_sti, t_C, t_If, t_F, look_dat, look_lst, look_dct, look_io, look_fn, look_exc, look_scr, ioCall_lst, ioCall_io, stB_lst, stB_io, seq_next, seq_ret, seq_exc, R.bind_ok, R.bind_exc, oR_some, oO_some, noX_ok, gd_true, br_true, br_false, tru_bool, intOf_int, ofO_some, ofS_some, ofOut_ok, ofOut_exc, op2_dat, op2_newL, op2_slot, opd_some, fn1_dat, fn1_newL, fn1_slot, fnd_some, fn1_scr, op2_scr', fn2_dat, peek_dat', peek_newL, peek_slot, pkB_lst, pkB_io, isi_dat, frz_dat, frz_newL, frz_newD, frz_slot, fzB_lst, frzs_nil, frzs_cons, args_nil, args_fn, args_scr, args_dat, args_newL, args_newD, args_slot, setB_eq, setO_un, setO_dat, setO_lst, setO_fn, setV_newL, setV_newD, setV_fn, setV_dat, setV_slot, setDs_nil, setDs_cons, setTg_name, setTg_names, seqOf_list, seqOf_tuple, tupOf_tuple, lstOf_lst, zipS_list, zipS_tuple, ownL_eq, ownB_lst, ownB_io, ofOutIo_ok, oioB_io, oioB_lst, retV_dat, retV_newL, retV_slot, rtB_lst, ownOk_nil, ownOk_cons, ownF_un, ownF_dat, wipeB_nil, wipeB_cons, backB_nil, backB_cons, getD_some', and_tt, v_lenS, v_ixS, seqOf_sq, gdU_true, retO_some, end_ret, end_next, end_exc, ioS_io, ioS_dat, ioS_fn, ioS_exc, ioS_scr, ioOf_io, ioOf_dat, ioOf_fn, ioOf_exc, ioOf_scr, isIo_io, isIo_dat, isIo_fn, isIo_exc, isIo_scr, beq_self_eq_true, gdO_true, v_add, v_addL, v_addT, v_sub, v_mul, v_mulL, v_mulT, v_fdiv, v_mod, v_pow, v_lt, v_le, v_gt, v_ge, v_eq, v_ne, v_ixL, v_ixT, v_lenL, v_lenT, v_tupL, v_tupT, v_lstL, v_lstT, v_sum, v_sumT, v_all, v_any, v_neg, v_isN, v_notN, v_isT, v_notT, v_max, v_min, map_some', plain_one, isTys_one, List.getElem?_cons_zero, List.getElem?_cons_succ, List.set_cons_zero, List.set_cons_succ, List.cons_append, List.nil_append, List.map_cons, List.map_nil, arB, e_slcB, e_inRng, e_callV, e_callS, fnB_fn, i_wip, s_wipe, s_try, try_ret, try_exc, outR_ok, s_while, v_repr, v_revL, v_revT, v_intB, v_isF, v_notF, v_nil, cutT, cutL, cutN, cutS, cutD_list, List.replicate_succ, List.replicate_zero, c__law_take, a0, h1, decide_true, h2, List.length_cons, i0]
theorem p_cell_at (hP : P n__law_cell_at = some d__law_cell_at) (ns : List Int) (k : Nat) : ∃ c : Int, Spec P 1 n__law_cell_at [.scr ns, .dat (.int (k : Nat))] (.ok (.dat (.int c)) []) := by
  by_cases h : k < ns.length
  · refine ⟨ns[k], spec_of hP rfl fun K hK => ?_⟩
    simp only [e_var, e_cst, e_gfn, e_op2, e_fn1, e_fn2, e_isi, e_and, e_or, e_not, e_ite, e_chain, e_lst, e_tup, e_emp, e_nil, e_cons, e_slcL, e_slcU, e_call, e_callIo, e_comp, e_compIf, i_of, i_rng1, i_rng2, i_enum, i_zip, s_nil, s_cons, s_set, s_unp, s_par, s_drop, s_ret, s_ite, s_for, s_raise, s_app, s_sti, t_C, t_If, t_F, look_dat, look_lst, look_dct, look_io, look_fn, look_exc, look_scr, ioCall_lst, ioCall_io, stB_lst, stB_io, seq_next, seq_ret, seq_exc, R.bind_ok, R.bind_exc, oR_some, oO_some, noX_ok, gd_true, br_true, br_false, tru_bool, intOf_int, ofO_some, ofS_some, ofOut_ok, ofOut_exc, op2_dat, op2_newL, op2_slot, opd_some, fn1_dat, fn1_newL, fn1_slot, fnd_some, fn1_scr, op2_scr', fn2_dat, peek_dat', peek_newL, peek_slot, pkB_lst, pkB_io, isi_dat, frz_dat, frz_newL, frz_newD, frz_slot, fzB_lst, frzs_nil, frzs_cons, args_nil, args_fn, args_scr, args_dat, args_newL, args_newD, args_slot, setB_eq, setO_un, setO_dat, setO_lst, setO_fn, setV_newL, setV_newD, setV_fn, setV_dat, setV_slot, setDs_nil, setDs_cons, setTg_name, setTg_names, seqOf_list, seqOf_tuple, tupOf_tuple, lstOf_lst, zipS_list, zipS_tuple, ownL_eq, ownB_lst, ownB_io, ofOutIo_ok, oioB_io, oioB_lst, retV_dat, retV_newL, retV_slot, rtB_lst, ownOk_nil, ownOk_cons, ownF_un, ownF_dat, wipeB_nil, wipeB_cons, backB_nil, backB_cons, getD_some', and_tt, v_lenS, v_ixS, seqOf_sq, gdU_true, retO_some, end_ret, end_next, end_exc, ioS_io, ioS_dat, ioS_fn, ioS_exc, ioS_scr, ioOf_io, ioOf_dat, ioOf_fn, ioOf_exc, ioOf_scr, isIo_io, isIo_dat, isIo_fn, isIo_exc, isIo_scr, beq_self_eq_true, gdO_true, v_add, v_addL, v_addT, v_sub, v_mul, v_mulL, v_mulT, v_fdiv, v_mod, v_pow, v_lt, v_le, v_gt, v_ge, v_eq, v_ne, v_ixL, v_ixT, v_lenL, v_lenT, v_tupL, v_tupT, v_lstL, v_lstT, v_sum, v_sumT, v_all, v_any, v_neg, v_isN, v_notN, v_isT, v_notT, v_max, v_min, map_some', plain_one, isTys_one, List.getElem?_cons_zero, List.getElem?_cons_succ, List.set_cons_zero, List.set_cons_succ, List.cons_append, List.nil_append, List.map_cons, List.map_nil, arB, e_slcB, e_inRng, e_callV, e_callS, fnB_fn, i_wip, s_wipe, s_try, try_ret, try_exc, outR_ok, s_while, v_repr, v_revL, v_revT, v_intB, v_isF, v_notF, v_nil, cutT, cutL, cutN, cutS, cutD_list, List.replicate_succ, List.replicate_zero, c__law_cell_at, show ((k : Nat) : Int) < (ns.length : Int) by omega, decide_true, atI_nat, List.getElem?_eq_getElem h]
  · refine ⟨0, spec_of hP rfl fun K hK => ?_⟩
    simp only [e_var, e_cst, e_gfn, e_op2, e_fn1, e_fn2, e_isi, e_and, e_or, e_not, e_ite, e_chain, e_lst, e_tup, e_emp, e_nil, e_cons, e_slcL, e_slcU, e_call, e_callIo, e_comp, e_compIf, i_of, i_rng1, i_rng2, i_enum, i_zip, s_nil, s_cons, s_set, s_unp, s_par, s_drop, s_ret, s_ite, s_for, s_raise, s_app, s_sti, t_C, t_If, t_F, look_dat, look_lst, look_dct, look_io, look_fn, look_exc, look_scr, ioCall_lst, ioCall_io, stB_lst, stB_io, seq_next, seq_ret, seq_exc, R.bind_ok, R.bind_exc, oR_some, oO_some, noX_ok, gd_true, br_true, br_false, tru_bool, intOf_int, ofO_some, ofS_some, ofOut_ok, ofOut_exc, op2_dat, op2_newL, op2_slot, opd_some, fn1_dat, fn1_newL, fn1_slot, fnd_some, fn1_scr, op2_scr', fn2_dat, peek_dat', peek_newL, peek_slot, pkB_lst, pkB_io, isi_dat, frz_dat, frz_newL, frz_newD, frz_slot, fzB_lst, frzs_nil, frzs_cons, args_nil, args_fn, args_scr, args_dat, args_newL, args_newD, args_slot, setB_eq, setO_un, setO_dat, setO_lst, setO_fn, setV_newL, setV_newD, setV_fn, setV_dat, setV_slot, setDs_nil, setDs_cons, setTg_name, setTg_names, seqOf_list, seqOf_tuple, tupOf_tuple, lstOf_lst, zipS_list, zipS_tuple, ownL_eq, ownB_lst, ownB_io, ofOutIo_ok, oioB_io, oioB_lst, retV_dat, retV_newL, retV_slot, rtB_lst, ownOk_nil, ownOk_cons, ownF_un, ownF_dat, wipeB_nil, wipeB_cons, backB_nil, backB_cons, getD_some', and_tt, v_lenS, v_ixS, seqOf_sq, gdU_true, retO_some, end_ret, end_next, end_exc, ioS_io, ioS_dat, ioS_fn, ioS_exc, ioS_scr, ioOf_io, ioOf_dat, ioOf_fn, ioOf_exc, ioOf_scr, isIo_io, isIo_dat, isIo_fn, isIo_exc, isIo_scr, beq_self_eq_true, gdO_true, v_add, v_addL, v_addT, v_sub, v_mul, v_mulL, v_mulT, v_fdiv, v_mod, v_pow, v_lt, v_le, v_gt, v_ge, v_eq, v_ne, v_ixL, v_ixT, v_lenL, v_lenT, v_tupL, v_tupT, v_lstL, v_lstT, v_sum, v_sumT, v_all, v_any, v_neg, v_isN, v_notN, v_isT, v_notT, v_max, v_min, map_some', plain_one, isTys_one, List.getElem?_cons_zero, List.getElem?_cons_succ, List.set_cons_zero, List.set_cons_succ, List.cons_append, List.nil_append, List.map_cons, List.map_nil, arB, e_slcB, e_inRng, e_callV, e_callS, fnB_fn, i_wip, s_wipe, s_try, try_ret, try_exc, outR_ok, s_while, v_repr, v_revL, v_revT, v_intB, v_isF, v_notF, v_nil, cutT, cutL, cutN, cutS, cutD_list, List.replicate_succ, List.replicate_zero, c__law_cell_at, show ¬ ((k : Nat) : Int) < (ns.length : Int) by omega, decide_false]
theorem p_pot (hP : P n__law_pot = some d__law_pot) (c : Int) : ∃ p : Int, Spec P 1 n__law_pot [.dat (.int c)] (.ok (.newL [.int p]) []) := by
  have hpow : powOk 10 18 = true := by decide +kernel
  have e18 : (10 : Int) ^ (18 : Int).toNat = 10 ^ 18 := rfl
  by_cases h : (10 : Int) ^ 18 ≤ c
  · refine ⟨c - 10 ^ 18, spec_of hP rfl fun K hK => ?_⟩
    simp only [e_var, e_cst, e_gfn, e_op2, e_fn1, e_fn2, e_isi, e_and, e_or, e_not, e_ite, e_chain, e_lst, e_tup, e_emp, e_nil, e_cons, e_slcL, e_slcU, e_call, e_callIo, e_comp, e_compIf, i_of, i_rng1, i_rng2, i_enum, i_zip, s_nil, s_cons, s_set, s_unp, s_par, s_drop, s_ret, s_ite, s_for, s_raise, s_app, s_sti, t_C, t_If, t_F, look_dat, look_lst, look_dct, look_io, look_fn, look_exc, look_scr, ioCall_lst, ioCall_io, stB_lst, stB_io, seq_next, seq_ret, seq_exc, R.bind_ok, R.bind_exc, oR_some, oO_some, noX_ok, gd_true, br_true, br_false, tru_bool, intOf_int, ofO_some, ofS_some, ofOut_ok, ofOut_exc, op2_dat, op2_newL, op2_slot, opd_some, fn1_dat, fn1_newL, fn1_slot, fnd_some, fn1_scr, op2_scr', fn2_dat, peek_dat', peek_newL, peek_slot, pkB_lst, pkB_io, isi_dat, frz_dat, frz_newL, frz_newD, frz_slot, fzB_lst, frzs_nil, frzs_cons, args_nil, args_fn, args_scr, args_dat, args_newL, args_newD, args_slot, setB_eq, setO_un, setO_dat, setO_lst, setO_fn, setV_newL, setV_newD, setV_fn, setV_dat, setV_slot, setDs_nil, setDs_cons, setTg_name, setTg_names, seqOf_list, seqOf_tuple, tupOf_tuple, lstOf_lst, zipS_list, zipS_tuple, ownL_eq, ownB_lst, ownB_io, ofOutIo_ok, oioB_io, oioB_lst, retV_dat, retV_newL, retV_slot, rtB_lst, ownOk_nil, ownOk_cons, ownF_un, ownF_dat, wipeB_nil, wipeB_cons, backB_nil, backB_cons, getD_some', and_tt, v_lenS, v_ixS, seqOf_sq, gdU_true, retO_some, end_ret, end_next, end_exc, ioS_io, ioS_dat, ioS_fn, ioS_exc, ioS_scr, ioOf_io, ioOf_dat, ioOf_fn, ioOf_exc, ioOf_scr, isIo_io, isIo_dat, isIo_fn, isIo_exc, isIo_scr, beq_self_eq_true, gdO_true, v_add, v_addL, v_addT, v_sub, v_mul, v_mulL, v_mulT, v_fdiv, v_mod, v_pow, v_lt, v_le, v_gt, v_ge, v_eq, v_ne, v_ixL, v_ixT, v_lenL, v_lenT, v_tupL, v_tupT, v_lstL, v_lstT, v_sum, v_sumT, v_all, v_any, v_neg, v_isN, v_notN, v_isT, v_notT, v_max, v_min, map_some', plain_one, isTys_one, List.getElem?_cons_zero, List.getElem?_cons_succ, List.set_cons_zero, List.set_cons_succ, List.cons_append, List.nil_append, List.map_cons, List.map_nil, arB, e_slcB, e_inRng, e_callV, e_callS, fnB_fn, i_wip, s_wipe, s_try, try_ret, try_exc, outR_ok, s_while, v_repr, v_revL, v_revT, v_intB, v_isF, v_notF, v_nil, cutT, cutL, cutN, cutS, cutD_list, List.replicate_succ, List.replicate_zero, c__law_pot, hpow, e18, h, decide_true, List.length_cons, List.length_nil, show lenOk (0 + 1) = true by decide]
  · have hr : rngOk 64 = true := by decide
    refine ⟨potR c 64, spec_of hP rfl fun K hK => ?_⟩
    simp only [e_var, e_cst, e_gfn, e_op2, e_fn1, e_fn2, e_isi, e_and, e_or, e_not, e_ite, e_chain, e_lst, e_tup, e_emp, e_nil, e_cons, e_slcL, e_slcU, e_call, e_callIo, e_comp, e_compIf, i_of, i_rng1, i_rng2, i_enum, i_zip, s_nil, s_cons, s_set, s_unp, s_par, s_drop, s_ret, s_ite, s_for, s_raise, s_app, s_sti, t_C, t_If, t_F, look_dat, look_lst, look_dct, look_io, look_fn, look_exc, look_scr, ioCall_lst, ioCall_io, stB_lst, stB_io, seq_next, seq_ret, seq_exc, R.bind_ok, R.bind_exc, oR_some, oO_some, noX_ok, gd_true, br_true, br_false, tru_bool, intOf_int, ofO_some, ofS_some, ofOut_ok, ofOut_exc, op2_dat, op2_newL, op2_slot, opd_some, fn1_dat, fn1_newL, fn1_slot, fnd_some, fn1_scr, op2_scr', fn2_dat, peek_dat', peek_newL, peek_slot, pkB_lst, pkB_io, isi_dat, frz_dat, frz_newL, frz_newD, frz_slot, fzB_lst, frzs_nil, frzs_cons, args_nil, args_fn, args_scr, args_dat, args_newL, args_newD, args_slot, setB_eq, setO_un, setO_dat, setO_lst, setO_fn, setV_newL, setV_newD, setV_fn, setV_dat, setV_slot, setDs_nil, setDs_cons, setTg_name, setTg_names, seqOf_list, seqOf_tuple, tupOf_tuple, lstOf_lst, zipS_list, zipS_tuple, ownL_eq, ownB_lst, ownB_io, ofOutIo_ok, oioB_io, oioB_lst, retV_dat, retV_newL, retV_slot, rtB_lst, ownOk_nil, ownOk_cons, ownF_un, ownF_dat, wipeB_nil, wipeB_cons, backB_nil, backB_cons, getD_some', and_tt, v_lenS, v_ixS, seqOf_sq, gdU_true, retO_some, end_ret, end_next, end_exc, ioS_io, ioS_dat, ioS_fn, ioS_exc, ioS_scr, ioOf_io, ioOf_dat, ioOf_fn, ioOf_exc, ioOf_scr, isIo_io, isIo_dat, isIo_fn, isIo_exc, isIo_scr, beq_self_eq_true, gdO_true, v_add, v_addL, v_addT, v_sub, v_mul, v_mulL, v_mulT, v_fdiv, v_mod, v_pow, v_lt, v_le, v_gt, v_ge, v_eq, v_ne, v_ixL, v_ixT, v_lenL, v_lenT, v_tupL, v_tupT, v_lstL, v_lstT, v_sum, v_sumT, v_all, v_any, v_neg, v_isN, v_notN, v_isT, v_notT, v_max, v_min, map_some', plain_one, isTys_one, List.getElem?_cons_zero, List.getElem?_cons_succ, List.set_cons_zero, List.set_cons_succ, List.cons_append, List.nil_append, List.map_cons, List.map_nil, arB, e_slcB, e_inRng, e_callV, e_callS, fnB_fn, i_wip, s_wipe, s_try, try_ret, try_exc, outR_ok, s_while, v_repr, v_revL, v_revT, v_intB, v_isF, v_notF, v_nil, cutT, cutL, cutN, cutS, cutD_list, List.replicate_succ, List.replicate_zero, c__law_pot, hpow, e18, h, decide_false, hr, show (64 : Int).toNat = 64 from rfl]
    generalize hL : loopF _ _ _ = L
    obtain ⟨s', rfl, q⟩ := loop_eq hL (fun i s => i ≤ 64 ∧ ∃ b2 b3, s = [.dat (.int c), .dat (.int (potR c i)), b2, b3] ∧ loose b2 ∧ loose b3) ⟨Nat.zero_le _, .un, .un, rfl, trivial, trivial⟩ (fun i x s hx hq => by
      obtain ⟨hi, b2, b3, rfl, l2, l3⟩ := hq
      obtain ⟨rfl, hlt⟩ := iota_get0 hx
      have q1 : decide ((0 : Int) < 2147483629) = true := by decide
      have q2 : decide ((0 : Int) < 2147483647) = true := by decide
      have q3 : decide ((0 : Int) < 2147483587) = true := by decide
      have c1 : 0 ≤ c % 2147483629 ∧ c % 2147483629 < 2147483629 := ⟨Int.emod_nonneg _ (by decide), Int.emod_lt_of_pos _ (by decide)⟩
      have m1 : mulOk 7919 ((i : Nat) : Int) = true := mulOk_of2 20 20 (by decide) (by omega) (by decide)
      have m2 : mulOk (c % 2147483629 + 7919 * ((i : Nat) : Int) + 1) 48271 = true := mulOk_of2 40 20 (by omega) (by decide) (by decide)
      generalize hu : (c % 2147483629 + 7919 * ((i : Nat) : Int) + 1) * 48271 % 2147483647 = u at *
      have c2 : 0 ≤ u ∧ u < 2147483647 := by subst hu; exact ⟨Int.emod_nonneg _ (by decide), Int.emod_lt_of_pos _ (by decide)⟩
      have m3 : mulOk u u = true := mulOk_of2 40 40 (by omega) (by omega) (by decide)
      have m4 : mulOk 69621 ((i : Nat) : Int) = true := mulOk_of2 20 20 (by decide) (by omega) (by decide)
      have hb := potR_bd c i
      have m5 : mulOk (potR c i) 2147483587 = true := by
        refine mulOk_of2 3000 40 ?_ (by decide) (by decide)
        have e1 : (2147483587 : Nat) ^ i ≤ 2147483587 ^ 64 := Nat.pow_le_pow_right (by decide) hi
        have e2 : (potR c i).natAbs < 2147483587 ^ 64 := by omega
        exact Nat.lt_trans e2 (by decide +kernel)
      simp only [e_var, e_cst, e_gfn, e_op2, e_fn1, e_fn2, e_isi, e_and, e_or, e_not, e_ite, e_chain, e_lst, e_tup, e_emp, e_nil, e_cons, e_slcL, e_slcU, e_call, e_callIo, e_comp, e_compIf, i_of, i_rng1, i_rng2, i_enum, i_zip, s_nil, s_cons, s_set, s_unp, s_par, s_drop, s_ret, s_ite, s_for, s_raise, s_app, s_sti, t_C, t_If, t_F, look_dat, look_lst, look_dct, look_io, look_fn, look_exc, look_scr, ioCall_lst, ioCall_io, stB_lst, stB_io, seq_next, seq_ret, seq_exc, R.bind_ok, R.bind_exc, oR_some, oO_some, noX_ok, gd_true, br_true, br_false, tru_bool, intOf_int, ofO_some, ofS_some, ofOut_ok, ofOut_exc, op2_dat, op2_newL, op2_slot, opd_some, fn1_dat, fn1_newL, fn1_slot, fnd_some, fn1_scr, op2_scr', fn2_dat, peek_dat', peek_newL, peek_slot, pkB_lst, pkB_io, isi_dat, frz_dat, frz_newL, frz_newD, frz_slot, fzB_lst, frzs_nil, frzs_cons, args_nil, args_fn, args_scr, args_dat, args_newL, args_newD, args_slot, setB_eq, setO_un, setO_dat, setO_lst, setO_fn, setV_newL, setV_newD, setV_fn, setV_dat, setV_slot, setDs_nil, setDs_cons, setTg_name, setTg_names, seqOf_list, seqOf_tuple, tupOf_tuple, lstOf_lst, zipS_list, zipS_tuple, ownL_eq, ownB_lst, ownB_io, ofOutIo_ok, oioB_io, oioB_lst, retV_dat, retV_newL, retV_slot, rtB_lst, ownOk_nil, ownOk_cons, ownF_un, ownF_dat, wipeB_nil, wipeB_cons, backB_nil, backB_cons, getD_some', and_tt, v_lenS, v_ixS, seqOf_sq, gdU_true, retO_some, end_ret, end_next, end_exc, ioS_io, ioS_dat, ioS_fn, ioS_exc, ioS_scr, ioOf_io, ioOf_dat, ioOf_fn, ioOf_exc, ioOf_scr, isIo_io, isIo_dat, isIo_fn, isIo_exc, isIo_scr, beq_self_eq_true, gdO_true, v_add, v_addL, v_addT, v_sub, v_mul, v_mulL, v_mulT, v_fdiv, v_mod, v_pow, v_lt, v_le, v_gt, v_ge, v_eq, v_ne, v_ixL, v_ixT, v_lenL, v_lenT, v_tupL, v_tupT, v_lstL, v_lstT, v_sum, v_sumT, v_all, v_any, v_neg, v_isN, v_notN, v_isT, v_notT, v_max, v_min, map_some', plain_one, isTys_one, List.getElem?_cons_zero, List.getElem?_cons_succ, List.set_cons_zero, List.set_cons_succ, List.cons_append, List.nil_append, List.map_cons, List.map_nil, arB, e_slcB, e_inRng, e_callV, e_callS, fnB_fn, i_wip, s_wipe, s_try, try_ret, try_exc, outR_ok, s_while, v_repr, v_revL, v_revT, v_intB, v_isF, v_notF, v_nil, cutT, cutL, cutN, cutS, cutD_list, List.replicate_succ, List.replicate_zero, setO_loose l2, setO_loose l3, q1, q2, q3, m1, m2, hu, m3, m4, m5]
      have hpm : potM c i = (u * u + 69621 * ((i : Nat) : Int) + 7) % 2147483587 := by unfold potM; rw [hu]
      rw [← hpm]
      exact ⟨_, rfl, by omega, .dat (.int (i : Nat)), .dat (.int (potM c i)), rfl, trivial, trivial⟩)
    obtain ⟨_, b2, b3, rfl, _⟩ := q
    rw [iota_len]
    simp only [e_var, e_cst, e_gfn, e_op2, e_fn1, e_fn2, e_isi, e_and, e_or, e_not, e_ite, e_chain, e_lst, e_tup, e_emp, e_nil, e_cons, e_slcL, e_slcU, e_call, e_callIo, e_comp, e_compIf, i_of, i_rng1, i_rng2, i_enum, i_zip, s_nil, s_cons, s_set, s_unp, s_par, s_drop, s_ret, s_ite, s_for, s_raise, s_app, s_sti, t_C, t_If, t_F, look_dat, look_lst, look_dct, look_io, look_fn, look_exc, look_scr, ioCall_lst, ioCall_io, stB_lst, stB_io, seq_next, seq_ret, seq_exc, R.bind_ok, R.bind_exc, oR_some, oO_some, noX_ok, gd_true, br_true, br_false, tru_bool, intOf_int, ofO_some, ofS_some, ofOut_ok, ofOut_exc, op2_dat, op2_newL, op2_slot, opd_some, fn1_dat, fn1_newL, fn1_slot, fnd_some, fn1_scr, op2_scr', fn2_dat, peek_dat', peek_newL, peek_slot, pkB_lst, pkB_io, isi_dat, frz_dat, frz_newL, frz_newD, frz_slot, fzB_lst, frzs_nil, frzs_cons, args_nil, args_fn, args_scr, args_dat, args_newL, args_newD, args_slot, setB_eq, setO_un, setO_dat, setO_lst, setO_fn, setV_newL, setV_newD, setV_fn, setV_dat, setV_slot, setDs_nil, setDs_cons, setTg_name, setTg_names, seqOf_list, seqOf_tuple, tupOf_tuple, lstOf_lst, zipS_list, zipS_tuple, ownL_eq, ownB_lst, ownB_io, ofOutIo_ok, oioB_io, oioB_lst, retV_dat, retV_newL, retV_slot, rtB_lst, ownOk_nil, ownOk_cons, ownF_un, ownF_dat, wipeB_nil, wipeB_cons, backB_nil, backB_cons, getD_some', and_tt, v_lenS, v_ixS, seqOf_sq, gdU_true, retO_some, end_ret, end_next, end_exc, ioS_io, ioS_dat, ioS_fn, ioS_exc, ioS_scr, ioOf_io, ioOf_dat, ioOf_fn, ioOf_exc, ioOf_scr, isIo_io, isIo_dat, isIo_fn, isIo_exc, isIo_scr, beq_self_eq_true, gdO_true, v_add, v_addL, v_addT, v_sub, v_mul, v_mulL, v_mulT, v_fdiv, v_mod, v_pow, v_lt, v_le, v_gt, v_ge, v_eq, v_ne, v_ixL, v_ixT, v_lenL, v_lenT, v_tupL, v_tupT, v_lstL, v_lstT, v_sum, v_sumT, v_all, v_any, v_neg, v_isN, v_notN, v_isT, v_notT, v_max, v_min, map_some', plain_one, isTys_one, List.getElem?_cons_zero, List.getElem?_cons_succ, List.set_cons_zero, List.set_cons_succ, List.cons_append, List.nil_append, List.map_cons, List.map_nil, arB, e_slcB, e_inRng, e_callV, e_callS, fnB_fn, i_wip, s_wipe, s_try, try_ret, try_exc, outR_ok, s_while, v_repr, v_revL, v_revT, v_intB, v_isF, v_notF, v_nil, cutT, cutL, cutN, cutS, cutD_list, List.replicate_succ, List.replicate_zero, List.length_cons, List.length_nil, show lenOk (0 + 1) = true by decide]
end
end Fc

namespace Fc
open PySem
/-- by a line multiplied in step by step (k11, k12, k14) -/
def c_turnedA : Ss :=
  (.cons (.set 2 (.lst .nil))
  (.cons (.for_ (.name 3) (.of (.var 0))
  (.cons (.set 2 (.comp (.op2 .add (.var 4) (.op2 .mul (.var 1) (.var 5))) [4, 5] (.names [4, 5]) (.zip (.op2 .add (.var 2) (.lst (.cons (.cst (.int 0)) .nil))) (.op2 .add (.lst (.cons (.cst (.int 0)) .nil)) (.var 2)))))
  (.cons (.sti 2 (.fn1 .neg (.cst (.int 1))) (.op2 .add (.op2 .ix (.var 2) (.fn1 .neg (.cst (.int 1)))) (.var 3)))
  .nil)))
  (.cons (.ret (.fn1 .tuple (.var 2)))
  .nil)))
def twL (s : Int) (ns : List Int) : List Int := (List.range ns.length).map (T s ns.length (gD ns))
def ad2 (s : Int) : D → D
  | .tuple [.int x, .int y] => .int (x + s * y)
  | d => d
/-- one place on -/
def prv (f : Nat → Int) : Nat → Int
  | 0 => 0
  | k + 1 => f k
theorem twL_len (s : Int) (ns : List Int) : (twL s ns).length = ns.length := by unfold twL; simp
theorem zipD_range (F G : Nat → D) : ∀ n, zipD ((List.range n).map F) ((List.range n).map G) = (List.range n).map fun k => .tuple [F k, G k] := by
  have app : ∀ (a b : List D) (x y : D), a.length = b.length → zipD (a ++ [x]) (b ++ [y]) = zipD a b ++ [.tuple [x, y]] := by
    intro a
    induction a with
    | nil => intro b x y h; cases b with | nil => rfl | cons _ _ => cases h
    | cons u a ih =>
      intro b x y h
      cases b with
      | nil => cases h
      | cons v b => show PyData.tuple [u, v] :: zipD (a ++ [x]) (b ++ [y]) = _; rw [ih b x y (by simpa using h)]; rfl
  intro n
  induction n with
  | zero => rfl
  | succ n ih => rw [List.range_succ, List.map_append, List.map_append, List.map_append, List.map_cons, List.map_nil, List.map_cons, List.map_nil, app _ _ _ _ (by simp), ih]; rfl
theorem T_bd {s : Int} {f : Nat → Int} {b : Nat} (hs : s.natAbs ≤ 1) (hf : ∀ i, (f i).natAbs < 2 ^ b) : ∀ n k, (T s n f k).natAbs < 2 ^ (b + 2 * n)
  | 0, k => by show (0 : Int).natAbs < _; exact Nat.two_pow_pos _
  | n + 1, k => by
    have e : 2 ^ (b + 2 * (n + 1)) = 4 * 2 ^ (b + 2 * n) := by rw [show b + 2 * (n + 1) = (b + 2 * n) + 2 by omega, Nat.pow_add]; omega
    have h1 : ∀ k, (lin s (T s n f) k).natAbs < 2 * 2 ^ (b + 2 * n) := fun k => by
      cases k with
      | zero => have := T_bd hs hf n 0; show (T s n f 0).natAbs < _; omega
      | succ k =>
        have a1 := T_bd hs hf n (k + 1)
        have a2 := T_bd hs hf n k
        show (T s n f (k + 1) + s * T s n f k).natAbs < _
        have a3 := Int.natAbs_add_le (T s n f (k + 1)) (s * T s n f k)
        have a4 : (s * T s n f k).natAbs ≤ (T s n f k).natAbs := by
          rw [Int.natAbs_mul]
          calc s.natAbs * _ ≤ 1 * _ := Nat.mul_le_mul_right _ hs
            _ = _ := Nat.one_mul _
        omega
    have h2 : (f n * dl n k).natAbs < 2 ^ (b + 2 * n) := by
      have := hf n
      have h3 : 2 ^ b ≤ 2 ^ (b + 2 * n) := Nat.pow_le_pow_right (by decide) (by omega)
      unfold dl
      split
      · rw [Int.mul_one]; omega
      · rw [Int.mul_zero]; exact Nat.two_pow_pos _
    show (lin s (T s n f) k + f n * dl n k).natAbs < _
    have := Int.natAbs_add_le (lin s (T s n f) k) (f n * dl n k)
    have := h1 k
    omega
theorem twL_neg (ns : List Int) : twL (-1) ns = trL (ns.length - 1 : Nat) ns := trL_T.symm
theorem twL_one (ns : List Int) : twL 1 ns = bkL ns := bkL_T.symm
theorem bd_twL {s : Int} {ns : List Int} {b : Nat} (hs : s.natAbs ≤ 1) (hl : ns.length ≤ 12) (hb : Bd b ns) : Bd (b + 24) (twL s ns) := by
  intro n hn
  obtain ⟨k, _, rfl⟩ := List.mem_map.mp hn
  exact Nat.lt_of_lt_of_le (T_bd hs (fun i => bd_getD hb) ns.length k) (Nat.pow_le_pow_right (by decide) (by omega))
section
variable {P : Nat → Option Fd}
theorem p_turnedA {nA : Nat} (hP : P nA = some ⟨2, 6, c_turnedA⟩) {q : Bool} {s : Int} {ns : List Int} {b : Nat} (hs : s.natAbs ≤ 1) (h1 : ns.length ≤ 12) (hb : Bd b ns) (hb2 : b ≤ 9000) :
    Spec P 1 nA [.dat (sq q (ns.map .int)), .dat (.int s)] (.ok (.dat (tupI (twL s ns))) []) := by
  refine spec_of hP rfl fun K hK => ?_
  simp only [e_var, e_cst, e_gfn, e_op2, e_fn1, e_fn2, e_isi, e_and, e_or, e_not, e_ite, e_chain, e_lst, e_tup, e_emp, e_nil, e_cons, e_slcL, e_slcU, e_call, e_callIo, e_comp, e_compIf, i_of, i_rng1, i_rng2, i_enum, i_zip, s_nil, s_cons, s_set, s_unp, s_par, s_drop, s_ret, s_ite, s_for, s_raise, s_app, s_sti, t_C, t_If, t_F, look_dat, look_lst, look_dct, look_io, look_fn, look_exc, look_scr, ioCall_lst, ioCall_io, stB_lst, stB_io, seq_next, seq_ret, seq_exc, R.bind_ok, R.bind_exc, oR_some, oO_some, noX_ok, gd_true, br_true, br_false, tru_bool, intOf_int, ofO_some, ofS_some, ofOut_ok, ofOut_exc, op2_dat, op2_newL, op2_slot, opd_some, fn1_dat, fn1_newL, fn1_slot, fnd_some, fn1_scr, op2_scr', fn2_dat, peek_dat', peek_newL, peek_slot, pkB_lst, pkB_io, isi_dat, frz_dat, frz_newL, frz_newD, frz_slot, fzB_lst, frzs_nil, frzs_cons, args_nil, args_fn, args_scr, args_dat, args_newL, args_newD, args_slot, setB_eq, setO_un, setO_dat, setO_lst, setO_fn, setV_newL, setV_newD, setV_fn, setV_dat, setV_slot, setDs_nil, setDs_cons, setTg_name, setTg_names, seqOf_list, seqOf_tuple, tupOf_tuple, lstOf_lst, zipS_list, zipS_tuple, ownL_eq, ownB_lst, ownB_io, ofOutIo_ok, oioB_io, oioB_lst, retV_dat, retV_newL, retV_slot, rtB_lst, ownOk_nil, ownOk_cons, ownF_un, ownF_dat, wipeB_nil, wipeB_cons, backB_nil, backB_cons, getD_some', and_tt, v_lenS, v_ixS, seqOf_sq, gdU_true, retO_some, end_ret, end_next, end_exc, ioS_io, ioS_dat, ioS_fn, ioS_exc, ioS_scr, ioOf_io, ioOf_dat, ioOf_fn, ioOf_exc, ioOf_scr, isIo_io, isIo_dat, isIo_fn, isIo_exc, isIo_scr, beq_self_eq_true, gdO_true, v_add, v_addL, v_addT, v_sub, v_mul, v_mulL, v_mulT, v_fdiv, v_mod, v_pow, v_lt, v_le, v_gt, v_ge, v_eq, v_ne, v_ixL, v_ixT, v_lenL, v_lenT, v_tupL, v_tupT, v_lstL, v_lstT, v_sum, v_sumT, v_all, v_any, v_neg, v_isN, v_notN, v_isT, v_notT, v_max, v_min, map_some', plain_one, isTys_one, List.getElem?_cons_zero, List.getElem?_cons_succ, List.set_cons_zero, List.set_cons_succ, List.cons_append, List.nil_append, List.map_cons, List.map_nil, arB, e_slcB, e_inRng, e_callV, e_callS, fnB_fn, i_wip, s_wipe, s_try, try_ret, try_exc, outR_ok, s_while, v_repr, v_revL, v_revT, v_intB, v_isF, v_notF, v_nil, cutT, cutL, cutN, cutS, cutD_list, List.replicate_succ, List.replicate_zero, c_turnedA, List.length_nil, lenOk_of' (Nat.zero_le _)]
  generalize hL : loopF _ _ _ = L
  obtain ⟨s', rfl, qq⟩ := loop_eq hL (fun n st => n ≤ ns.length ∧ ∃ b3, st = [.dat (sq q (ns.map .int)), .dat (.int s), .lst (((List.range n).map (T s n (gD ns))).map .int), b3, .un, .un] ∧ loose b3) ⟨Nat.zero_le _, .un, rfl, trivial⟩ (fun n x st hx hq => by
      obtain ⟨hn, b3, rfl, l3⟩ := hq
      have hnl : n < ns.length := by
        have := (List.getElem?_eq_some_iff.mp hx).1
        rw [List.length_map] at this; exact this
      have ex : x = .int (gD ns n) := by
        rw [List.getElem?_map, List.getElem?_eq_getElem hnl] at hx
        cases hx
        simp [gD, List.getD, hnl]
      subst ex
      have z1 : ((List.range n).map (T s n (gD ns))).map PyData.int ++ [.int 0] = (List.range (n + 1)).map fun k => PyData.int (T s n (gD ns) k) := by
        rw [List.range_succ, List.map_append, List.map_map, List.map_cons, List.map_nil, T_supp s (gD ns) (Nat.le_refl n)]; rfl
      have z2 : PyData.int 0 :: ((List.range n).map (T s n (gD ns))).map PyData.int = (List.range (n + 1)).map fun k => PyData.int (prv (T s n (gD ns)) k) := by
        rw [List.range_succ_eq_map, List.map_cons, List.map_map, List.map_map]; rfl
      simp only [e_var, e_cst, e_gfn, e_op2, e_fn1, e_fn2, e_isi, e_and, e_or, e_not, e_ite, e_chain, e_lst, e_tup, e_emp, e_nil, e_cons, e_slcL, e_slcU, e_call, e_callIo, e_comp, e_compIf, i_of, i_rng1, i_rng2, i_enum, i_zip, s_nil, s_cons, s_set, s_unp, s_par, s_drop, s_ret, s_ite, s_for, s_raise, s_app, s_sti, t_C, t_If, t_F, look_dat, look_lst, look_dct, look_io, look_fn, look_exc, look_scr, ioCall_lst, ioCall_io, stB_lst, stB_io, seq_next, seq_ret, seq_exc, R.bind_ok, R.bind_exc, oR_some, oO_some, noX_ok, gd_true, br_true, br_false, tru_bool, intOf_int, ofO_some, ofS_some, ofOut_ok, ofOut_exc, op2_dat, op2_newL, op2_slot, opd_some, fn1_dat, fn1_newL, fn1_slot, fnd_some, fn1_scr, op2_scr', fn2_dat, peek_dat', peek_newL, peek_slot, pkB_lst, pkB_io, isi_dat, frz_dat, frz_newL, frz_newD, frz_slot, fzB_lst, frzs_nil, frzs_cons, args_nil, args_fn, args_scr, args_dat, args_newL, args_newD, args_slot, setB_eq, setO_un, setO_dat, setO_lst, setO_fn, setV_newL, setV_newD, setV_fn, setV_dat, setV_slot, setDs_nil, setDs_cons, setTg_name, setTg_names, seqOf_list, seqOf_tuple, tupOf_tuple, lstOf_lst, zipS_list, zipS_tuple, ownL_eq, ownB_lst, ownB_io, ofOutIo_ok, oioB_io, oioB_lst, retV_dat, retV_newL, retV_slot, rtB_lst, ownOk_nil, ownOk_cons, ownF_un, ownF_dat, wipeB_nil, wipeB_cons, backB_nil, backB_cons, getD_some', and_tt, v_lenS, v_ixS, seqOf_sq, gdU_true, retO_some, end_ret, end_next, end_exc, ioS_io, ioS_dat, ioS_fn, ioS_exc, ioS_scr, ioOf_io, ioOf_dat, ioOf_fn, ioOf_exc, ioOf_scr, isIo_io, isIo_dat, isIo_fn, isIo_exc, isIo_scr, beq_self_eq_true, gdO_true, v_add, v_addL, v_addT, v_sub, v_mul, v_mulL, v_mulT, v_fdiv, v_mod, v_pow, v_lt, v_le, v_gt, v_ge, v_eq, v_ne, v_ixL, v_ixT, v_lenL, v_lenT, v_tupL, v_tupT, v_lstL, v_lstT, v_sum, v_sumT, v_all, v_any, v_neg, v_isN, v_notN, v_isT, v_notT, v_max, v_min, map_some', plain_one, isTys_one, List.getElem?_cons_zero, List.getElem?_cons_succ, List.set_cons_zero, List.set_cons_succ, List.cons_append, List.nil_append, List.map_cons, List.map_nil, arB, e_slcB, e_inRng, e_callV, e_callS, fnB_fn, i_wip, s_wipe, s_try, try_ret, try_exc, outR_ok, s_while, v_repr, v_revL, v_revT, v_intB, v_isF, v_notF, v_nil, cutT, cutL, cutN, cutS, cutD_list, List.replicate_succ, List.replicate_zero, setO_loose l3, List.length_map, List.length_range, List.length_cons, List.length_nil, show lenOk (0 + 1) = true by decide, lenOk_of' (show n + (0 + 1) ≤ 1000000 by omega), lenOk_of' (show 0 + 1 + n ≤ 1000000 by omega), z1, z2, zipD_range]
      generalize hM : loopC _ _ _ _ = M
      have := comp_eq hM (ad2 s) fun d hd => by
          obtain ⟨k, hk, rfl⟩ := List.mem_map.mp hd
          have hm : mulOk s (prv (T s n (gD ns)) k) = true := by
            refine mulOk_of2 2 (b + 2 * n + 1) (by omega) ?_ (by omega)
            have t : ∀ k, (T s n (gD ns) k).natAbs < 2 ^ (b + 2 * n + 1) := fun k => Nat.lt_of_lt_of_le (T_bd hs (fun i => bd_getD hb) n k) (Nat.pow_le_pow_right (by decide) (by omega))
            cases k with
            | zero => exact Nat.two_pow_pos _
            | succ k => exact t k
          simp only [e_var, e_cst, e_gfn, e_op2, e_fn1, e_fn2, e_isi, e_and, e_or, e_not, e_ite, e_chain, e_lst, e_tup, e_emp, e_nil, e_cons, e_slcL, e_slcU, e_call, e_callIo, e_comp, e_compIf, i_of, i_rng1, i_rng2, i_enum, i_zip, s_nil, s_cons, s_set, s_unp, s_par, s_drop, s_ret, s_ite, s_for, s_raise, s_app, s_sti, t_C, t_If, t_F, look_dat, look_lst, look_dct, look_io, look_fn, look_exc, look_scr, ioCall_lst, ioCall_io, stB_lst, stB_io, seq_next, seq_ret, seq_exc, R.bind_ok, R.bind_exc, oR_some, oO_some, noX_ok, gd_true, br_true, br_false, tru_bool, intOf_int, ofO_some, ofS_some, ofOut_ok, ofOut_exc, op2_dat, op2_newL, op2_slot, opd_some, fn1_dat, fn1_newL, fn1_slot, fnd_some, fn1_scr, op2_scr', fn2_dat, peek_dat', peek_newL, peek_slot, pkB_lst, pkB_io, isi_dat, frz_dat, frz_newL, frz_newD, frz_slot, fzB_lst, frzs_nil, frzs_cons, args_nil, args_fn, args_scr, args_dat, args_newL, args_newD, args_slot, setB_eq, setO_un, setO_dat, setO_lst, setO_fn, setV_newL, setV_newD, setV_fn, setV_dat, setV_slot, setDs_nil, setDs_cons, setTg_name, setTg_names, seqOf_list, seqOf_tuple, tupOf_tuple, lstOf_lst, zipS_list, zipS_tuple, ownL_eq, ownB_lst, ownB_io, ofOutIo_ok, oioB_io, oioB_lst, retV_dat, retV_newL, retV_slot, rtB_lst, ownOk_nil, ownOk_cons, ownF_un, ownF_dat, wipeB_nil, wipeB_cons, backB_nil, backB_cons, getD_some', and_tt, v_lenS, v_ixS, seqOf_sq, gdU_true, retO_some, end_ret, end_next, end_exc, ioS_io, ioS_dat, ioS_fn, ioS_exc, ioS_scr, ioOf_io, ioOf_dat, ioOf_fn, ioOf_exc, ioOf_scr, isIo_io, isIo_dat, isIo_fn, isIo_exc, isIo_scr, beq_self_eq_true, gdO_true, v_add, v_addL, v_addT, v_sub, v_mul, v_mulL, v_mulT, v_fdiv, v_mod, v_pow, v_lt, v_le, v_gt, v_ge, v_eq, v_ne, v_ixL, v_ixT, v_lenL, v_lenT, v_tupL, v_tupT, v_lstL, v_lstT, v_sum, v_sumT, v_all, v_any, v_neg, v_isN, v_notN, v_isT, v_notT, v_max, v_min, map_some', plain_one, isTys_one, List.getElem?_cons_zero, List.getElem?_cons_succ, List.set_cons_zero, List.set_cons_succ, List.cons_append, List.nil_append, List.map_cons, List.map_nil, arB, e_slcB, e_inRng, e_callV, e_callS, fnB_fn, i_wip, s_wipe, s_try, try_ret, try_exc, outR_ok, s_while, v_repr, v_revL, v_revT, v_intB, v_isF, v_notF, v_nil, cutT, cutL, cutN, cutS, cutD_list, List.replicate_succ, List.replicate_zero, hm]
          rfl
      subst this
      rw [List.map_map]
      rw [show ((List.range (n + 1)).map (ad2 s ∘ fun k => PyData.tuple [PyData.int (T s n (gD ns) k), PyData.int (prv (T s n (gD ns)) k)])) = (List.range (n + 1)).map fun k => PyData.int (lin s (T s n (gD ns)) k) from List.map_congr_left fun k _ => by
        cases k with
        | zero => show PyData.int (T s n (gD ns) 0 + s * 0) = PyData.int (T s n (gD ns) 0); rw [Int.mul_zero, Int.add_zero]
        | succ k => rfl]
      have e1 : L2.atI ((List.range (n + 1)).map fun k => PyData.int (lin s (T s n (gD ns)) k)) (-1) = some (.int (lin s (T s n (gD ns)) n)) := by
        rw [atI_m1 (by simp)]; simp
      have e2 : L2.ixN (n + 1) (-1) = some n := ixN_m1 (by omega)
      simp only [e_var, e_cst, e_gfn, e_op2, e_fn1, e_fn2, e_isi, e_and, e_or, e_not, e_ite, e_chain, e_lst, e_tup, e_emp, e_nil, e_cons, e_slcL, e_slcU, e_call, e_callIo, e_comp, e_compIf, i_of, i_rng1, i_rng2, i_enum, i_zip, s_nil, s_cons, s_set, s_unp, s_par, s_drop, s_ret, s_ite, s_for, s_raise, s_app, s_sti, t_C, t_If, t_F, look_dat, look_lst, look_dct, look_io, look_fn, look_exc, look_scr, ioCall_lst, ioCall_io, stB_lst, stB_io, seq_next, seq_ret, seq_exc, R.bind_ok, R.bind_exc, oR_some, oO_some, noX_ok, gd_true, br_true, br_false, tru_bool, intOf_int, ofO_some, ofS_some, ofOut_ok, ofOut_exc, op2_dat, op2_newL, op2_slot, opd_some, fn1_dat, fn1_newL, fn1_slot, fnd_some, fn1_scr, op2_scr', fn2_dat, peek_dat', peek_newL, peek_slot, pkB_lst, pkB_io, isi_dat, frz_dat, frz_newL, frz_newD, frz_slot, fzB_lst, frzs_nil, frzs_cons, args_nil, args_fn, args_scr, args_dat, args_newL, args_newD, args_slot, setB_eq, setO_un, setO_dat, setO_lst, setO_fn, setV_newL, setV_newD, setV_fn, setV_dat, setV_slot, setDs_nil, setDs_cons, setTg_name, setTg_names, seqOf_list, seqOf_tuple, tupOf_tuple, lstOf_lst, zipS_list, zipS_tuple, ownL_eq, ownB_lst, ownB_io, ofOutIo_ok, oioB_io, oioB_lst, retV_dat, retV_newL, retV_slot, rtB_lst, ownOk_nil, ownOk_cons, ownF_un, ownF_dat, wipeB_nil, wipeB_cons, backB_nil, backB_cons, getD_some', and_tt, v_lenS, v_ixS, seqOf_sq, gdU_true, retO_some, end_ret, end_next, end_exc, ioS_io, ioS_dat, ioS_fn, ioS_exc, ioS_scr, ioOf_io, ioOf_dat, ioOf_fn, ioOf_exc, ioOf_scr, isIo_io, isIo_dat, isIo_fn, isIo_exc, isIo_scr, beq_self_eq_true, gdO_true, v_add, v_addL, v_addT, v_sub, v_mul, v_mulL, v_mulT, v_fdiv, v_mod, v_pow, v_lt, v_le, v_gt, v_ge, v_eq, v_ne, v_ixL, v_ixT, v_lenL, v_lenT, v_tupL, v_tupT, v_lstL, v_lstT, v_sum, v_sumT, v_all, v_any, v_neg, v_isN, v_notN, v_isT, v_notT, v_max, v_min, map_some', plain_one, isTys_one, List.getElem?_cons_zero, List.getElem?_cons_succ, List.set_cons_zero, List.set_cons_succ, List.cons_append, List.nil_append, List.map_cons, List.map_nil, arB, e_slcB, e_inRng, e_callV, e_callS, fnB_fn, i_wip, s_wipe, s_try, try_ret, try_exc, outR_ok, s_while, v_repr, v_revL, v_revT, v_intB, v_isF, v_notF, v_nil, cutT, cutL, cutN, cutS, cutD_list, List.replicate_succ, List.replicate_zero, e1, List.length_map, List.length_range, e2]
      refine ⟨_, rfl, by omega, .dat (.int (gD ns n)), ?_, trivial⟩
      rw [range_set, List.map_map]
      congr 4
      refine List.map_congr_left fun k hk => ?_
      have hk := List.mem_range.mp hk
      show (if k = n then _ else _) = PyData.int (lin s (T s n (gD ns)) k + gD ns n * dl n k)
      unfold dl
      by_cases z : k = n
      · rw [if_pos z, if_pos z, z, Int.mul_one]
      · rw [if_neg z, if_neg z, Int.mul_zero, Int.add_zero])
  obtain ⟨_, b3, rfl, l3⟩ := qq
  rw [List.length_map]
  simp only [e_var, e_cst, e_gfn, e_op2, e_fn1, e_fn2, e_isi, e_and, e_or, e_not, e_ite, e_chain, e_lst, e_tup, e_emp, e_nil, e_cons, e_slcL, e_slcU, e_call, e_callIo, e_comp, e_compIf, i_of, i_rng1, i_rng2, i_enum, i_zip, s_nil, s_cons, s_set, s_unp, s_par, s_drop, s_ret, s_ite, s_for, s_raise, s_app, s_sti, t_C, t_If, t_F, look_dat, look_lst, look_dct, look_io, look_fn, look_exc, look_scr, ioCall_lst, ioCall_io, stB_lst, stB_io, seq_next, seq_ret, seq_exc, R.bind_ok, R.bind_exc, oR_some, oO_some, noX_ok, gd_true, br_true, br_false, tru_bool, intOf_int, ofO_some, ofS_some, ofOut_ok, ofOut_exc, op2_dat, op2_newL, op2_slot, opd_some, fn1_dat, fn1_newL, fn1_slot, fnd_some, fn1_scr, op2_scr', fn2_dat, peek_dat', peek_newL, peek_slot, pkB_lst, pkB_io, isi_dat, frz_dat, frz_newL, frz_newD, frz_slot, fzB_lst, frzs_nil, frzs_cons, args_nil, args_fn, args_scr, args_dat, args_newL, args_newD, args_slot, setB_eq, setO_un, setO_dat, setO_lst, setO_fn, setV_newL, setV_newD, setV_fn, setV_dat, setV_slot, setDs_nil, setDs_cons, setTg_name, setTg_names, seqOf_list, seqOf_tuple, tupOf_tuple, lstOf_lst, zipS_list, zipS_tuple, ownL_eq, ownB_lst, ownB_io, ofOutIo_ok, oioB_io, oioB_lst, retV_dat, retV_newL, retV_slot, rtB_lst, ownOk_nil, ownOk_cons, ownF_un, ownF_dat, wipeB_nil, wipeB_cons, backB_nil, backB_cons, getD_some', and_tt, v_lenS, v_ixS, seqOf_sq, gdU_true, retO_some, end_ret, end_next, end_exc, ioS_io, ioS_dat, ioS_fn, ioS_exc, ioS_scr, ioOf_io, ioOf_dat, ioOf_fn, ioOf_exc, ioOf_scr, isIo_io, isIo_dat, isIo_fn, isIo_exc, isIo_scr, beq_self_eq_true, gdO_true, v_add, v_addL, v_addT, v_sub, v_mul, v_mulL, v_mulT, v_fdiv, v_mod, v_pow, v_lt, v_le, v_gt, v_ge, v_eq, v_ne, v_ixL, v_ixT, v_lenL, v_lenT, v_tupL, v_tupT, v_lstL, v_lstT, v_sum, v_sumT, v_all, v_any, v_neg, v_isN, v_notN, v_isT, v_notT, v_max, v_min, map_some', plain_one, isTys_one, List.getElem?_cons_zero, List.getElem?_cons_succ, List.set_cons_zero, List.set_cons_succ, List.cons_append, List.nil_append, List.map_cons, List.map_nil, arB, e_slcB, e_inRng, e_callV, e_callS, fnB_fn, i_wip, s_wipe, s_try, try_ret, try_exc, outR_ok, s_while, v_repr, v_revL, v_revT, v_intB, v_isF, v_notF, v_nil, cutT, cutL, cutN, cutS, cutD_list, List.replicate_succ, List.replicate_zero]
  rfl
end
end Fc

/-! what several laws' own defs do -/
namespace Fc
open PySem
def words : List Str := ["other", "net", "face", "point", "apart", "many", "text", "row", "number", "level", "crowd", "way", "closed", "swap", "places", "deed", "line"]
def wordOf (c : Nat) : Str := words.getD c "other"
theorem word_eval (Φ : Nat → List Ar → Out) : ∀ c, c < 17 → endOf false (dSs Φ c__law_word [.exc c, .un, .un]) = .ok (.dat (.str (wordOf c))) []
  | 0, _ => rfl
  | 1, _ => rfl
  | 2, _ => rfl
  | 3, _ => rfl
  | 4, _ => rfl
  | 5, _ => rfl
  | 6, _ => rfl
  | 7, _ => rfl
  | 8, _ => rfl
  | 9, _ => rfl
  | 10, _ => rfl
  | 11, _ => rfl
  | 12, _ => rfl
  | 13, _ => rfl
  | 14, _ => rfl
  | 15, _ => rfl
  | 16, _ => rfl
  | n + 17, h => by omega
/-- a whole number within bounds -/
def uptoD (lo hi : Int) : D → Bool
  | .int i => decide (lo ≤ i) && decide (i ≤ hi)
  | _ => false
theorem atI_mem {α : Type} {xs : List α} {r : Int} (h0 : 0 ≤ r) (h1 : r < (xs.length : Int)) : ∃ x ∈ xs, L2.atI xs r = some x := by
  obtain ⟨k, rfl⟩ : ∃ k : Nat, r = (k : Int) := ⟨r.toNat, by omega⟩
  have hk : k < xs.length := by omega
  exact ⟨xs[k], List.getElem_mem hk, by rw [atI_nat, List.getElem?_eq_getElem hk]⟩
/-- how many cells are gone through -/
theorem turns {n : Nat} {m : Int} (h : 1 ≤ m) : ∃ N : Nat, (if (if m < (n : Int) then m else (n : Int)) > 1 then (if m < (n : Int) then m else (n : Int)) else 1) = (N : Int) ∧ (N : Int) ≤ m := by
  refine ⟨(if (if m < (n : Int) then m else (n : Int)) > 1 then (if m < (n : Int) then m else (n : Int)) else 1).toNat, ?_, ?_⟩
  · split <;> split <;> omega
  · split <;> split <;> omega
def fall (n : Nat) : Nat → Nat
  | 0 => 1
  | k + 1 => fall n k * (n - k)
def fct : Nat → Nat
  | 0 => 1
  | k + 1 => fct k * (k + 1)
theorem fct_pos : ∀ k, 0 < fct k
  | 0 => Nat.one_pos
  | k + 1 => Nat.mul_pos (fct_pos k) (Nat.succ_pos k)
theorem fall_eq (n : Nat) : ∀ k, k ≤ n → fall n k = chs n k * fct k
  | 0, _ => by rw [chs_zero]; rfl
  | k + 1, h => by
    show fall n k * (n - k) = chs n (k + 1) * (fct k * (k + 1))
    rw [fall_eq n k (by omega), Nat.mul_comm (fct k), ← Nat.mul_assoc, chs_step n k (by omega)]
    rw [Nat.mul_assoc, Nat.mul_assoc, Nat.mul_comm (fct k)]
theorem fall_le (n : Nat) : ∀ k, fall n k ≤ (n + 1) ^ k
  | 0 => Nat.le_refl _
  | k + 1 => by
    show fall n k * (n - k) ≤ _
    rw [Nat.pow_succ]
    exact Nat.mul_le_mul (fall_le n k) (by omega)
theorem fct_le : ∀ k, fct k ≤ (k + 1) ^ k
  | 0 => Nat.le_refl _
  | k + 1 => by
    show fct k * (k + 1) ≤ _
    rw [Nat.pow_succ]
    exact Nat.mul_le_mul (Nat.le_trans (fct_le k) (Nat.pow_le_pow_left (by omega) _)) (by omega)
theorem nat_lt_pow {a n k : Nat} (h : a ≤ n ^ k) (q b : Nat) (hn : n ≤ 2 ^ q) (hk : k ≤ b) : a < 2 ^ (q * b + 1) := by
  have h1 : n ^ k ≤ (2 ^ q) ^ k := Nat.pow_le_pow_left hn k
  have h2 : (2 ^ q) ^ k ≤ 2 ^ (q * b) := by rw [← Nat.pow_mul]; exact Nat.pow_le_pow_right (by decide) (Nat.mul_le_mul_left q hk)
  have h3 : 2 ^ (q * b) < 2 ^ (q * b + 1) := Nat.pow_lt_pow_right (by decide) (by omega)
  omega
/-- a for loop whose state hangs on the number of turns -/
theorem loop_idx {turn : D → St → R Fl} {xs : List D} {s : St} {L : R Fl} (hL : loopF turn xs s = L) (S : Nat → St) (h0 : s = S 0) (hs : ∀ i x, xs[i]? = some x → turn x (S i) = .ok .next (S (i + 1))) : L = .ok .next (S xs.length) := by
  subst h0
  rw [← hL]
  have := (loop_fold (turn := turn) S (fun k _ => k + 1) (fun i k => i = k) xs 0 0 rfl fun i x k hx e => by
    rw [Nat.zero_add] at e
    subst e
    exact ⟨hs i x hx, by omega⟩)
  obtain ⟨e1, e2⟩ := this
  rw [e1, ← e2, Nat.zero_add]
/-- .. that stays the same -/
theorem loop_stay {turn : D → St → R Fl} {xs : List D} {s : St} {L : R Fl} (hL : loopF turn xs s = L) (hs : ∀ x ∈ xs, turn x s = .ok .next s) : L = .ok .next s := by
  rw [← hL, loop_same xs hs]
section
variable {P : Nat → Option Fd}
theorem p_word (h : Rq__law_word P) {c : Nat} (hc : c < 17) : Spec P 1 93 [.exc c] (.ok (.dat (.str (wordOf c))) []) :=
  spec_of h rfl fun K _ => word_eval (dFun P K) c hc
theorem p_kind (h : Rq__law_kind_of P) {c : Nat} (hc : c < 17) : Spec P 1 44 [.exc c] (.ok (.dat (.str (wordOf c))) []) :=
  spec_of h rfl fun K _ => word_eval (dFun P K) c hc
theorem p_upto (h : Rq_is_upto P) (d : D) (lo hi : Int) : Spec P 2 157 [.dat d, .dat (.int lo), .dat (.int hi)] (.ok (.dat (.bool (uptoD lo hi d))) []) := by
  refine spec_of h.1 rfl fun K hK => ?_
  have h1 := p_is_whole h.2 d K hK
  cases d with
  | int i =>
    simp only [e_var, e_cst, e_gfn, e_op2, e_fn1, e_fn2, e_isi, e_and, e_or, e_not, e_ite, e_chain, e_lst, e_tup, e_emp, e_nil, e_cons, e_slcL, e_slcU, e_call, e_callIo, e_comp, e_compIf, i_of, i_rng1, i_rng2, i_enum, i_zip, s_nil, s_cons, s_set, s_unp, s_par, s_drop, s_ret, s_ite, s_for, s_raise, s_app, s_sti, t_C, t_If, t_F, look_dat, look_lst, look_dct, look_io, look_fn, look_exc, look_scr, ioCall_lst, ioCall_io, stB_lst, stB_io, seq_next, seq_ret, seq_exc, R.bind_ok, R.bind_exc, oR_some, oO_some, noX_ok, gd_true, br_true, br_false, tru_bool, intOf_int, ofO_some, ofS_some, ofOut_ok, ofOut_exc, op2_dat, op2_newL, op2_slot, opd_some, fn1_dat, fn1_newL, fn1_slot, fnd_some, fn1_scr, op2_scr', fn2_dat, peek_dat', peek_newL, peek_slot, pkB_lst, pkB_io, isi_dat, frz_dat, frz_newL, frz_newD, frz_slot, fzB_lst, frzs_nil, frzs_cons, args_nil, args_fn, args_scr, args_dat, args_newL, args_newD, args_slot, setB_eq, setO_un, setO_dat, setO_lst, setO_fn, setV_newL, setV_newD, setV_fn, setV_dat, setV_slot, setDs_nil, setDs_cons, setTg_name, setTg_names, seqOf_list, seqOf_tuple, tupOf_tuple, lstOf_lst, zipS_list, zipS_tuple, ownL_eq, ownB_lst, ownB_io, ofOutIo_ok, oioB_io, oioB_lst, retV_dat, retV_newL, retV_slot, rtB_lst, ownOk_nil, ownOk_cons, ownF_un, ownF_dat, wipeB_nil, wipeB_cons, backB_nil, backB_cons, getD_some', and_tt, v_lenS, v_ixS, seqOf_sq, gdU_true, retO_some, end_ret, end_next, end_exc, ioS_io, ioS_dat, ioS_fn, ioS_exc, ioS_scr, ioOf_io, ioOf_dat, ioOf_fn, ioOf_exc, ioOf_scr, isIo_io, isIo_dat, isIo_fn, isIo_exc, isIo_scr, beq_self_eq_true, gdO_true, v_add, v_addL, v_addT, v_sub, v_mul, v_mulL, v_mulT, v_fdiv, v_mod, v_pow, v_lt, v_le, v_gt, v_ge, v_eq, v_ne, v_ixL, v_ixT, v_lenL, v_lenT, v_tupL, v_tupT, v_lstL, v_lstT, v_sum, v_sumT, v_all, v_any, v_neg, v_isN, v_notN, v_isT, v_notT, v_max, v_min, map_some', plain_one, isTys_one, List.getElem?_cons_zero, List.getElem?_cons_succ, List.set_cons_zero, List.set_cons_succ, List.cons_append, List.nil_append, List.map_cons, List.map_nil, arB, e_slcB, e_inRng, e_callV, e_callS, fnB_fn, i_wip, s_wipe, s_try, try_ret, try_exc, outR_ok, s_while, v_repr, v_revL, v_revT, v_intB, v_isF, v_notF, v_nil, cutT, cutL, cutN, cutS, cutD_list, List.replicate_succ, List.replicate_zero, c_is_upto, h1, isIntD]
    by_cases q : lo ≤ i
    · simp only [e_var, e_cst, e_gfn, e_op2, e_fn1, e_fn2, e_isi, e_and, e_or, e_not, e_ite, e_chain, e_lst, e_tup, e_emp, e_nil, e_cons, e_slcL, e_slcU, e_call, e_callIo, e_comp, e_compIf, i_of, i_rng1, i_rng2, i_enum, i_zip, s_nil, s_cons, s_set, s_unp, s_par, s_drop, s_ret, s_ite, s_for, s_raise, s_app, s_sti, t_C, t_If, t_F, look_dat, look_lst, look_dct, look_io, look_fn, look_exc, look_scr, ioCall_lst, ioCall_io, stB_lst, stB_io, seq_next, seq_ret, seq_exc, R.bind_ok, R.bind_exc, oR_some, oO_some, noX_ok, gd_true, br_true, br_false, tru_bool, intOf_int, ofO_some, ofS_some, ofOut_ok, ofOut_exc, op2_dat, op2_newL, op2_slot, opd_some, fn1_dat, fn1_newL, fn1_slot, fnd_some, fn1_scr, op2_scr', fn2_dat, peek_dat', peek_newL, peek_slot, pkB_lst, pkB_io, isi_dat, frz_dat, frz_newL, frz_newD, frz_slot, fzB_lst, frzs_nil, frzs_cons, args_nil, args_fn, args_scr, args_dat, args_newL, args_newD, args_slot, setB_eq, setO_un, setO_dat, setO_lst, setO_fn, setV_newL, setV_newD, setV_fn, setV_dat, setV_slot, setDs_nil, setDs_cons, setTg_name, setTg_names, seqOf_list, seqOf_tuple, tupOf_tuple, lstOf_lst, zipS_list, zipS_tuple, ownL_eq, ownB_lst, ownB_io, ofOutIo_ok, oioB_io, oioB_lst, retV_dat, retV_newL, retV_slot, rtB_lst, ownOk_nil, ownOk_cons, ownF_un, ownF_dat, wipeB_nil, wipeB_cons, backB_nil, backB_cons, getD_some', and_tt, v_lenS, v_ixS, seqOf_sq, gdU_true, retO_some, end_ret, end_next, end_exc, ioS_io, ioS_dat, ioS_fn, ioS_exc, ioS_scr, ioOf_io, ioOf_dat, ioOf_fn, ioOf_exc, ioOf_scr, isIo_io, isIo_dat, isIo_fn, isIo_exc, isIo_scr, beq_self_eq_true, gdO_true, v_add, v_addL, v_addT, v_sub, v_mul, v_mulL, v_mulT, v_fdiv, v_mod, v_pow, v_lt, v_le, v_gt, v_ge, v_eq, v_ne, v_ixL, v_ixT, v_lenL, v_lenT, v_tupL, v_tupT, v_lstL, v_lstT, v_sum, v_sumT, v_all, v_any, v_neg, v_isN, v_notN, v_isT, v_notT, v_max, v_min, map_some', plain_one, isTys_one, List.getElem?_cons_zero, List.getElem?_cons_succ, List.set_cons_zero, List.set_cons_succ, List.cons_append, List.nil_append, List.map_cons, List.map_nil, arB, e_slcB, e_inRng, e_callV, e_callS, fnB_fn, i_wip, s_wipe, s_try, try_ret, try_exc, outR_ok, s_while, v_repr, v_revL, v_revT, v_intB, v_isF, v_notF, v_nil, cutT, cutL, cutN, cutS, cutD_list, List.replicate_succ, List.replicate_zero, q, decide_true, Bool.true_and, uptoD]
    · simp only [e_var, e_cst, e_gfn, e_op2, e_fn1, e_fn2, e_isi, e_and, e_or, e_not, e_ite, e_chain, e_lst, e_tup, e_emp, e_nil, e_cons, e_slcL, e_slcU, e_call, e_callIo, e_comp, e_compIf, i_of, i_rng1, i_rng2, i_enum, i_zip, s_nil, s_cons, s_set, s_unp, s_par, s_drop, s_ret, s_ite, s_for, s_raise, s_app, s_sti, t_C, t_If, t_F, look_dat, look_lst, look_dct, look_io, look_fn, look_exc, look_scr, ioCall_lst, ioCall_io, stB_lst, stB_io, seq_next, seq_ret, seq_exc, R.bind_ok, R.bind_exc, oR_some, oO_some, noX_ok, gd_true, br_true, br_false, tru_bool, intOf_int, ofO_some, ofS_some, ofOut_ok, ofOut_exc, op2_dat, op2_newL, op2_slot, opd_some, fn1_dat, fn1_newL, fn1_slot, fnd_some, fn1_scr, op2_scr', fn2_dat, peek_dat', peek_newL, peek_slot, pkB_lst, pkB_io, isi_dat, frz_dat, frz_newL, frz_newD, frz_slot, fzB_lst, frzs_nil, frzs_cons, args_nil, args_fn, args_scr, args_dat, args_newL, args_newD, args_slot, setB_eq, setO_un, setO_dat, setO_lst, setO_fn, setV_newL, setV_newD, setV_fn, setV_dat, setV_slot, setDs_nil, setDs_cons, setTg_name, setTg_names, seqOf_list, seqOf_tuple, tupOf_tuple, lstOf_lst, zipS_list, zipS_tuple, ownL_eq, ownB_lst, ownB_io, ofOutIo_ok, oioB_io, oioB_lst, retV_dat, retV_newL, retV_slot, rtB_lst, ownOk_nil, ownOk_cons, ownF_un, ownF_dat, wipeB_nil, wipeB_cons, backB_nil, backB_cons, getD_some', and_tt, v_lenS, v_ixS, seqOf_sq, gdU_true, retO_some, end_ret, end_next, end_exc, ioS_io, ioS_dat, ioS_fn, ioS_exc, ioS_scr, ioOf_io, ioOf_dat, ioOf_fn, ioOf_exc, ioOf_scr, isIo_io, isIo_dat, isIo_fn, isIo_exc, isIo_scr, beq_self_eq_true, gdO_true, v_add, v_addL, v_addT, v_sub, v_mul, v_mulL, v_mulT, v_fdiv, v_mod, v_pow, v_lt, v_le, v_gt, v_ge, v_eq, v_ne, v_ixL, v_ixT, v_lenL, v_lenT, v_tupL, v_tupT, v_lstL, v_lstT, v_sum, v_sumT, v_all, v_any, v_neg, v_isN, v_notN, v_isT, v_notT, v_max, v_min, map_some', plain_one, isTys_one, List.getElem?_cons_zero, List.getElem?_cons_succ, List.set_cons_zero, List.set_cons_succ, List.cons_append, List.nil_append, List.map_cons, List.map_nil, arB, e_slcB, e_inRng, e_callV, e_callS, fnB_fn, i_wip, s_wipe, s_try, try_ret, try_exc, outR_ok, s_while, v_repr, v_revL, v_revT, v_intB, v_isF, v_notF, v_nil, cutT, cutL, cutN, cutS, cutD_list, List.replicate_succ, List.replicate_zero, q, decide_false, Bool.false_and, uptoD]
  | _ => simp only [e_var, e_cst, e_gfn, e_op2, e_fn1, e_fn2, e_isi, e_and, e_or, e_not, e_ite, e_chain, e_lst, e_tup, e_emp, e_nil, e_cons, e_slcL, e_slcU, e_call, e_callIo, e_comp, e_compIf, i_of, i_rng1, i_rng2, i_enum, i_zip, s_nil, s_cons, s_set, s_unp, s_par, s_drop, s_ret, s_ite, s_for, s_raise, s_app, s_sti, t_C, t_If, t_F, look_dat, look_lst, look_dct, look_io, look_fn, look_exc, look_scr, ioCall_lst, ioCall_io, stB_lst, stB_io, seq_next, seq_ret, seq_exc, R.bind_ok, R.bind_exc, oR_some, oO_some, noX_ok, gd_true, br_true, br_false, tru_bool, intOf_int, ofO_some, ofS_some, ofOut_ok, ofOut_exc, op2_dat, op2_newL, op2_slot, opd_some, fn1_dat, fn1_newL, fn1_slot, fnd_some, fn1_scr, op2_scr', fn2_dat, peek_dat', peek_newL, peek_slot, pkB_lst, pkB_io, isi_dat, frz_dat, frz_newL, frz_newD, frz_slot, fzB_lst, frzs_nil, frzs_cons, args_nil, args_fn, args_scr, args_dat, args_newL, args_newD, args_slot, setB_eq, setO_un, setO_dat, setO_lst, setO_fn, setV_newL, setV_newD, setV_fn, setV_dat, setV_slot, setDs_nil, setDs_cons, setTg_name, setTg_names, seqOf_list, seqOf_tuple, tupOf_tuple, lstOf_lst, zipS_list, zipS_tuple, ownL_eq, ownB_lst, ownB_io, ofOutIo_ok, oioB_io, oioB_lst, retV_dat, retV_newL, retV_slot, rtB_lst, ownOk_nil, ownOk_cons, ownF_un, ownF_dat, wipeB_nil, wipeB_cons, backB_nil, backB_cons, getD_some', and_tt, v_lenS, v_ixS, seqOf_sq, gdU_true, retO_some, end_ret, end_next, end_exc, ioS_io, ioS_dat, ioS_fn, ioS_exc, ioS_scr, ioOf_io, ioOf_dat, ioOf_fn, ioOf_exc, ioOf_scr, isIo_io, isIo_dat, isIo_fn, isIo_exc, isIo_scr, beq_self_eq_true, gdO_true, v_add, v_addL, v_addT, v_sub, v_mul, v_mulL, v_mulT, v_fdiv, v_mod, v_pow, v_lt, v_le, v_gt, v_ge, v_eq, v_ne, v_ixL, v_ixT, v_lenL, v_lenT, v_tupL, v_tupT, v_lstL, v_lstT, v_sum, v_sumT, v_all, v_any, v_neg, v_isN, v_notN, v_isT, v_notT, v_max, v_min, map_some', plain_one, isTys_one, List.getElem?_cons_zero, List.getElem?_cons_succ, List.set_cons_zero, List.set_cons_succ, List.cons_append, List.nil_append, List.map_cons, List.map_nil, arB, e_slcB, e_inRng, e_callV, e_callS, fnB_fn, i_wip, s_wipe, s_try, try_ret, try_exc, outR_ok, s_while, v_repr, v_revL, v_revT, v_intB, v_isF, v_notF, v_nil, cutT, cutL, cutN, cutS, cutD_list, List.replicate_succ, List.replicate_zero, c_is_upto, h1, isIntD, uptoD]
theorem p_lways (h : Rq__law_ways P) {n m : Int} (h0 : 0 ≤ m) (h1 : m ≤ 13) (h2 : n ≤ 10 ^ 13) : Spec P 1 91 [.dat (.int n), .dat (.int m)] (.ok (.dat (.int (wys n m))) []) := by
  refine spec_of h rfl fun K _ => ?_
  generalize dFun P K = Φ
  unfold wys
  by_cases hnm : n < m
  · simp only [e_var, e_cst, e_gfn, e_op2, e_fn1, e_fn2, e_isi, e_and, e_or, e_not, e_ite, e_chain, e_lst, e_tup, e_emp, e_nil, e_cons, e_slcL, e_slcU, e_call, e_callIo, e_comp, e_compIf, i_of, i_rng1, i_rng2, i_enum, i_zip, s_nil, s_cons, s_set, s_unp, s_par, s_drop, s_ret, s_ite, s_for, s_raise, s_app, s_sti, t_C, t_If, t_F, look_dat, look_lst, look_dct, look_io, look_fn, look_exc, look_scr, ioCall_lst, ioCall_io, stB_lst, stB_io, seq_next, seq_ret, seq_exc, R.bind_ok, R.bind_exc, oR_some, oO_some, noX_ok, gd_true, br_true, br_false, tru_bool, intOf_int, ofO_some, ofS_some, ofOut_ok, ofOut_exc, op2_dat, op2_newL, op2_slot, opd_some, fn1_dat, fn1_newL, fn1_slot, fnd_some, fn1_scr, op2_scr', fn2_dat, peek_dat', peek_newL, peek_slot, pkB_lst, pkB_io, isi_dat, frz_dat, frz_newL, frz_newD, frz_slot, fzB_lst, frzs_nil, frzs_cons, args_nil, args_fn, args_scr, args_dat, args_newL, args_newD, args_slot, setB_eq, setO_un, setO_dat, setO_lst, setO_fn, setV_newL, setV_newD, setV_fn, setV_dat, setV_slot, setDs_nil, setDs_cons, setTg_name, setTg_names, seqOf_list, seqOf_tuple, tupOf_tuple, lstOf_lst, zipS_list, zipS_tuple, ownL_eq, ownB_lst, ownB_io, ofOutIo_ok, oioB_io, oioB_lst, retV_dat, retV_newL, retV_slot, rtB_lst, ownOk_nil, ownOk_cons, ownF_un, ownF_dat, wipeB_nil, wipeB_cons, backB_nil, backB_cons, getD_some', and_tt, v_lenS, v_ixS, seqOf_sq, gdU_true, retO_some, end_ret, end_next, end_exc, ioS_io, ioS_dat, ioS_fn, ioS_exc, ioS_scr, ioOf_io, ioOf_dat, ioOf_fn, ioOf_exc, ioOf_scr, isIo_io, isIo_dat, isIo_fn, isIo_exc, isIo_scr, beq_self_eq_true, gdO_true, v_add, v_addL, v_addT, v_sub, v_mul, v_mulL, v_mulT, v_fdiv, v_mod, v_pow, v_lt, v_le, v_gt, v_ge, v_eq, v_ne, v_ixL, v_ixT, v_lenL, v_lenT, v_tupL, v_tupT, v_lstL, v_lstT, v_sum, v_sumT, v_all, v_any, v_neg, v_isN, v_notN, v_isT, v_notT, v_max, v_min, map_some', plain_one, isTys_one, List.getElem?_cons_zero, List.getElem?_cons_succ, List.set_cons_zero, List.set_cons_succ, List.cons_append, List.nil_append, List.map_cons, List.map_nil, arB, e_slcB, e_inRng, e_callV, e_callS, fnB_fn, i_wip, s_wipe, s_try, try_ret, try_exc, outR_ok, s_while, v_repr, v_revL, v_revT, v_intB, v_isF, v_notF, v_nil, cutT, cutL, cutN, cutS, cutD_list, List.replicate_succ, List.replicate_zero, c__law_ways, hnm, decide_true, if_true]
  · have hr : rngOk m = true := rngOk_of' (by omega) (by omega)
    simp only [e_var, e_cst, e_gfn, e_op2, e_fn1, e_fn2, e_isi, e_and, e_or, e_not, e_ite, e_chain, e_lst, e_tup, e_emp, e_nil, e_cons, e_slcL, e_slcU, e_call, e_callIo, e_comp, e_compIf, i_of, i_rng1, i_rng2, i_enum, i_zip, s_nil, s_cons, s_set, s_unp, s_par, s_drop, s_ret, s_ite, s_for, s_raise, s_app, s_sti, t_C, t_If, t_F, look_dat, look_lst, look_dct, look_io, look_fn, look_exc, look_scr, ioCall_lst, ioCall_io, stB_lst, stB_io, seq_next, seq_ret, seq_exc, R.bind_ok, R.bind_exc, oR_some, oO_some, noX_ok, gd_true, br_true, br_false, tru_bool, intOf_int, ofO_some, ofS_some, ofOut_ok, ofOut_exc, op2_dat, op2_newL, op2_slot, opd_some, fn1_dat, fn1_newL, fn1_slot, fnd_some, fn1_scr, op2_scr', fn2_dat, peek_dat', peek_newL, peek_slot, pkB_lst, pkB_io, isi_dat, frz_dat, frz_newL, frz_newD, frz_slot, fzB_lst, frzs_nil, frzs_cons, args_nil, args_fn, args_scr, args_dat, args_newL, args_newD, args_slot, setB_eq, setO_un, setO_dat, setO_lst, setO_fn, setV_newL, setV_newD, setV_fn, setV_dat, setV_slot, setDs_nil, setDs_cons, setTg_name, setTg_names, seqOf_list, seqOf_tuple, tupOf_tuple, lstOf_lst, zipS_list, zipS_tuple, ownL_eq, ownB_lst, ownB_io, ofOutIo_ok, oioB_io, oioB_lst, retV_dat, retV_newL, retV_slot, rtB_lst, ownOk_nil, ownOk_cons, ownF_un, ownF_dat, wipeB_nil, wipeB_cons, backB_nil, backB_cons, getD_some', and_tt, v_lenS, v_ixS, seqOf_sq, gdU_true, retO_some, end_ret, end_next, end_exc, ioS_io, ioS_dat, ioS_fn, ioS_exc, ioS_scr, ioOf_io, ioOf_dat, ioOf_fn, ioOf_exc, ioOf_scr, isIo_io, isIo_dat, isIo_fn, isIo_exc, isIo_scr, beq_self_eq_true, gdO_true, v_add, v_addL, v_addT, v_sub, v_mul, v_mulL, v_mulT, v_fdiv, v_mod, v_pow, v_lt, v_le, v_gt, v_ge, v_eq, v_ne, v_ixL, v_ixT, v_lenL, v_lenT, v_tupL, v_tupT, v_lstL, v_lstT, v_sum, v_sumT, v_all, v_any, v_neg, v_isN, v_notN, v_isT, v_notT, v_max, v_min, map_some', plain_one, isTys_one, List.getElem?_cons_zero, List.getElem?_cons_succ, List.set_cons_zero, List.set_cons_succ, List.cons_append, List.nil_append, List.map_cons, List.map_nil, arB, e_slcB, e_inRng, e_callV, e_callS, fnB_fn, i_wip, s_wipe, s_try, try_ret, try_exc, outR_ok, s_while, v_repr, v_revL, v_revT, v_intB, v_isF, v_notF, v_nil, cutT, cutL, cutN, cutS, cutD_list, List.replicate_succ, List.replicate_zero, c__law_ways, hnm, decide_false, hr, if_false, List.length_cons, List.length_nil, show lenOk (0 + 1 + 1) = true from rfl]
    have hL := loop_fold (turn := tnF Φ (.name 4) (.cons (.set 2 (.op2 .mul (.var 2) (.op2 .sub (.var 0) (.var 4)))) (.cons (.set 3 (.op2 .mul (.var 3) (.op2 .add (.var 4) (.cst (.int 1))))) (.cons (.wipe [1, 4]) .nil))))
      (fun k : Nat => [.dat (.int n), .un, .dat (.int (fall n.toNat k : Nat)), .dat (.int (fct k : Nat)), .un]) (fun k _ => k + 1) (fun i k => i = k ∧ k ≤ m.toNat) (iotaI 0 m.toNat) 0 0 ⟨rfl, Nat.zero_le _⟩ (fun i x k hx hq => by
        obtain ⟨rfl, hlt⟩ := iota_get0 hx
        obtain ⟨e, _⟩ := hq
        rw [Nat.zero_add] at e
        subst e
        have b1 : (fall n.toNat i) < 2 ^ (44 * 13 + 1) := nat_lt_pow (fall_le _ _) 44 13 (by omega) (by omega)
        have b2 : (fct i) < 2 ^ (4 * 13 + 1) := nat_lt_pow (fct_le _) 4 13 (by omega) (by omega)
        have m1 : mulOk (fall n.toNat i : Nat) (n - (i : Nat)) = true := mulOk_of2 (44 * 13 + 1) 44 (by omega) (by omega) (by decide)
        have m2 : mulOk (fct i : Nat) ((i : Nat) + 1) = true := mulOk_of2 (4 * 13 + 1) 44 (by omega) (by omega) (by decide)
        simp only [e_var, e_cst, e_gfn, e_op2, e_fn1, e_fn2, e_isi, e_and, e_or, e_not, e_ite, e_chain, e_lst, e_tup, e_emp, e_nil, e_cons, e_slcL, e_slcU, e_call, e_callIo, e_comp, e_compIf, i_of, i_rng1, i_rng2, i_enum, i_zip, s_nil, s_cons, s_set, s_unp, s_par, s_drop, s_ret, s_ite, s_for, s_raise, s_app, s_sti, t_C, t_If, t_F, look_dat, look_lst, look_dct, look_io, look_fn, look_exc, look_scr, ioCall_lst, ioCall_io, stB_lst, stB_io, seq_next, seq_ret, seq_exc, R.bind_ok, R.bind_exc, oR_some, oO_some, noX_ok, gd_true, br_true, br_false, tru_bool, intOf_int, ofO_some, ofS_some, ofOut_ok, ofOut_exc, op2_dat, op2_newL, op2_slot, opd_some, fn1_dat, fn1_newL, fn1_slot, fnd_some, fn1_scr, op2_scr', fn2_dat, peek_dat', peek_newL, peek_slot, pkB_lst, pkB_io, isi_dat, frz_dat, frz_newL, frz_newD, frz_slot, fzB_lst, frzs_nil, frzs_cons, args_nil, args_fn, args_scr, args_dat, args_newL, args_newD, args_slot, setB_eq, setO_un, setO_dat, setO_lst, setO_fn, setV_newL, setV_newD, setV_fn, setV_dat, setV_slot, setDs_nil, setDs_cons, setTg_name, setTg_names, seqOf_list, seqOf_tuple, tupOf_tuple, lstOf_lst, zipS_list, zipS_tuple, ownL_eq, ownB_lst, ownB_io, ofOutIo_ok, oioB_io, oioB_lst, retV_dat, retV_newL, retV_slot, rtB_lst, ownOk_nil, ownOk_cons, ownF_un, ownF_dat, wipeB_nil, wipeB_cons, backB_nil, backB_cons, getD_some', and_tt, v_lenS, v_ixS, seqOf_sq, gdU_true, retO_some, end_ret, end_next, end_exc, ioS_io, ioS_dat, ioS_fn, ioS_exc, ioS_scr, ioOf_io, ioOf_dat, ioOf_fn, ioOf_exc, ioOf_scr, isIo_io, isIo_dat, isIo_fn, isIo_exc, isIo_scr, beq_self_eq_true, gdO_true, v_add, v_addL, v_addT, v_sub, v_mul, v_mulL, v_mulT, v_fdiv, v_mod, v_pow, v_lt, v_le, v_gt, v_ge, v_eq, v_ne, v_ixL, v_ixT, v_lenL, v_lenT, v_tupL, v_tupT, v_lstL, v_lstT, v_sum, v_sumT, v_all, v_any, v_neg, v_isN, v_notN, v_isT, v_notT, v_max, v_min, map_some', plain_one, isTys_one, List.getElem?_cons_zero, List.getElem?_cons_succ, List.set_cons_zero, List.set_cons_succ, List.cons_append, List.nil_append, List.map_cons, List.map_nil, arB, e_slcB, e_inRng, e_callV, e_callS, fnB_fn, i_wip, s_wipe, s_try, try_ret, try_exc, outR_ok, s_while, v_repr, v_revL, v_revT, v_intB, v_isF, v_notF, v_nil, cutT, cutL, cutN, cutS, cutD_list, List.replicate_succ, List.replicate_zero, m1, m2]
        have e1 : ((fall n.toNat i : Nat) : Int) * (n - (i : Nat)) = ((fall n.toNat (i + 1) : Nat) : Int) := by
          show _ = ((fall n.toNat i * (n.toNat - i) : Nat) : Int)
          rw [Int.natCast_mul]
          congr 1
          omega
        have e2 : ((fct i : Nat) : Int) * ((i : Nat) + 1) = ((fct (i + 1) : Nat) : Int) := by
          show _ = ((fct i * (i + 1) : Nat) : Int)
          rw [Int.natCast_mul]; rfl
        rw [e1, e2]
        exact ⟨rfl, by omega, by omega⟩)
    obtain ⟨e, q1, q2⟩ := hL
    rw [iota_len, Nat.zero_add] at q1
    rw [show ((fall n.toNat 0 : Nat) : Int) = 1 from rfl, show ((fct 0 : Nat) : Int) = 1 from rfl] at e
    rw [e, ← q1]
    have b2 : (fct m.toNat) < 2 ^ (4 * 13 + 1) := nat_lt_pow (fct_le _) 4 13 (by omega) (by omega)
    have hp := fct_pos m.toNat
    have hd : divOk (fct m.toNat : Nat) = true := divOk_of3 (q := 53) (by omega) (by omega) (by decide)
    simp only [e_var, e_cst, e_gfn, e_op2, e_fn1, e_fn2, e_isi, e_and, e_or, e_not, e_ite, e_chain, e_lst, e_tup, e_emp, e_nil, e_cons, e_slcL, e_slcU, e_call, e_callIo, e_comp, e_compIf, i_of, i_rng1, i_rng2, i_enum, i_zip, s_nil, s_cons, s_set, s_unp, s_par, s_drop, s_ret, s_ite, s_for, s_raise, s_app, s_sti, t_C, t_If, t_F, look_dat, look_lst, look_dct, look_io, look_fn, look_exc, look_scr, ioCall_lst, ioCall_io, stB_lst, stB_io, seq_next, seq_ret, seq_exc, R.bind_ok, R.bind_exc, oR_some, oO_some, noX_ok, gd_true, br_true, br_false, tru_bool, intOf_int, ofO_some, ofS_some, ofOut_ok, ofOut_exc, op2_dat, op2_newL, op2_slot, opd_some, fn1_dat, fn1_newL, fn1_slot, fnd_some, fn1_scr, op2_scr', fn2_dat, peek_dat', peek_newL, peek_slot, pkB_lst, pkB_io, isi_dat, frz_dat, frz_newL, frz_newD, frz_slot, fzB_lst, frzs_nil, frzs_cons, args_nil, args_fn, args_scr, args_dat, args_newL, args_newD, args_slot, setB_eq, setO_un, setO_dat, setO_lst, setO_fn, setV_newL, setV_newD, setV_fn, setV_dat, setV_slot, setDs_nil, setDs_cons, setTg_name, setTg_names, seqOf_list, seqOf_tuple, tupOf_tuple, lstOf_lst, zipS_list, zipS_tuple, ownL_eq, ownB_lst, ownB_io, ofOutIo_ok, oioB_io, oioB_lst, retV_dat, retV_newL, retV_slot, rtB_lst, ownOk_nil, ownOk_cons, ownF_un, ownF_dat, wipeB_nil, wipeB_cons, backB_nil, backB_cons, getD_some', and_tt, v_lenS, v_ixS, seqOf_sq, gdU_true, retO_some, end_ret, end_next, end_exc, ioS_io, ioS_dat, ioS_fn, ioS_exc, ioS_scr, ioOf_io, ioOf_dat, ioOf_fn, ioOf_exc, ioOf_scr, isIo_io, isIo_dat, isIo_fn, isIo_exc, isIo_scr, beq_self_eq_true, gdO_true, v_add, v_addL, v_addT, v_sub, v_mul, v_mulL, v_mulT, v_fdiv, v_mod, v_pow, v_lt, v_le, v_gt, v_ge, v_eq, v_ne, v_ixL, v_ixT, v_lenL, v_lenT, v_tupL, v_tupT, v_lstL, v_lstT, v_sum, v_sumT, v_all, v_any, v_neg, v_isN, v_notN, v_isT, v_notT, v_max, v_min, map_some', plain_one, isTys_one, List.getElem?_cons_zero, List.getElem?_cons_succ, List.set_cons_zero, List.set_cons_succ, List.cons_append, List.nil_append, List.map_cons, List.map_nil, arB, e_slcB, e_inRng, e_callV, e_callS, fnB_fn, i_wip, s_wipe, s_try, try_ret, try_exc, outR_ok, s_while, v_repr, v_revL, v_revT, v_intB, v_isF, v_notF, v_nil, cutT, cutL, cutN, cutS, cutD_list, List.replicate_succ, List.replicate_zero, hd]
    rw [fall_eq _ _ (by omega), Int.natCast_mul, Int.mul_ediv_cancel _ (by omega)]
end
end Fc

/-! rows: what is refused; sameness -/
namespace Fc
open PySem
def numsD (m : Int) : D → Bool
  | .tuple xs => decide ((xs.length : Int) = m) && xs.all isIntD
  | _ => false
def rowD : D → Bool
  | .tuple xs => decide (1 ≤ xs.length) && decide (xs.length ≤ 12) && xs.all isIntD
  | _ => false
theorem ints_of : ∀ {xs : List D}, xs.all isIntD = true → ∃ ns : List Int, xs = ns.map .int
  | [], _ => ⟨[], rfl⟩
  | x :: xs, h => by
    rw [List.all_cons, Bool.and_eq_true] at h
    obtain ⟨ns, rfl⟩ := ints_of h.2
    cases x with
    | int i => exact ⟨i :: ns, rfl⟩
    | _ => cases h.1
theorem rowD_of {d : D} (h : rowD d = true) : ∃ ns, d = tupI ns ∧ RowOk ns := by
  cases d with
  | tuple xs =>
    unfold rowD at h
    rw [Bool.and_eq_true, Bool.and_eq_true] at h
    obtain ⟨ns, rfl⟩ := ints_of h.2
    have h1 := of_decide_eq_true h.1.1
    have h2 := of_decide_eq_true h.1.2
    rw [List.length_map] at h1 h2
    exact ⟨ns, rfl, h1, h2⟩
  | _ => cases h
theorem rowD_tupI {ns : List Int} (h : RowOk ns) : rowD (tupI ns) = true := by
  show (decide (1 ≤ (ns.map PyData.int).length) && decide ((ns.map PyData.int).length ≤ 12) && (ns.map PyData.int).all isIntD) = true
  rw [all_int, List.length_map, decide_eq_true h.1, decide_eq_true h.2]; rfl
theorem numsD_of {d : D} {m : Int} (h : numsD m d = true) : ∃ ns, d = tupI ns ∧ (ns.length : Int) = m := by
  cases d with
  | tuple xs =>
    unfold numsD at h
    rw [Bool.and_eq_true] at h
    obtain ⟨ns, rfl⟩ := ints_of h.2
    have h1 := of_decide_eq_true h.1
    rw [List.length_map] at h1
    exact ⟨ns, rfl, h1⟩
  | _ => cases h
section
variable {P : Nat → Option Fd}
theorem p_nums (h : Rq_are_numbers P) (d : D) (m : Int) : Spec P 2 100 [.dat d, .dat (.int m)] (.ok (.dat (.bool (numsD m d))) []) := by
  cases d with
  | tuple xs => exact p_are_numbers h.1 h.2 xs m
  | _ =>
    refine spec_of h.1 rfl fun K hK => ?_
    simp only [e_var, e_cst, e_gfn, e_op2, e_fn1, e_fn2, e_isi, e_and, e_or, e_not, e_ite, e_chain, e_lst, e_tup, e_emp, e_nil, e_cons, e_slcL, e_slcU, e_call, e_callIo, e_comp, e_compIf, i_of, i_rng1, i_rng2, i_enum, i_zip, s_nil, s_cons, s_set, s_unp, s_par, s_drop, s_ret, s_ite, s_for, s_raise, s_app, s_sti, t_C, t_If, t_F, look_dat, look_lst, look_dct, look_io, look_fn, look_exc, look_scr, ioCall_lst, ioCall_io, stB_lst, stB_io, seq_next, seq_ret, seq_exc, R.bind_ok, R.bind_exc, oR_some, oO_some, noX_ok, gd_true, br_true, br_false, tru_bool, intOf_int, ofO_some, ofS_some, ofOut_ok, ofOut_exc, op2_dat, op2_newL, op2_slot, opd_some, fn1_dat, fn1_newL, fn1_slot, fnd_some, fn1_scr, op2_scr', fn2_dat, peek_dat', peek_newL, peek_slot, pkB_lst, pkB_io, isi_dat, frz_dat, frz_newL, frz_newD, frz_slot, fzB_lst, frzs_nil, frzs_cons, args_nil, args_fn, args_scr, args_dat, args_newL, args_newD, args_slot, setB_eq, setO_un, setO_dat, setO_lst, setO_fn, setV_newL, setV_newD, setV_fn, setV_dat, setV_slot, setDs_nil, setDs_cons, setTg_name, setTg_names, seqOf_list, seqOf_tuple, tupOf_tuple, lstOf_lst, zipS_list, zipS_tuple, ownL_eq, ownB_lst, ownB_io, ofOutIo_ok, oioB_io, oioB_lst, retV_dat, retV_newL, retV_slot, rtB_lst, ownOk_nil, ownOk_cons, ownF_un, ownF_dat, wipeB_nil, wipeB_cons, backB_nil, backB_cons, getD_some', and_tt, v_lenS, v_ixS, seqOf_sq, gdU_true, retO_some, end_ret, end_next, end_exc, ioS_io, ioS_dat, ioS_fn, ioS_exc, ioS_scr, ioOf_io, ioOf_dat, ioOf_fn, ioOf_exc, ioOf_scr, isIo_io, isIo_dat, isIo_fn, isIo_exc, isIo_scr, beq_self_eq_true, gdO_true, v_add, v_addL, v_addT, v_sub, v_mul, v_mulL, v_mulT, v_fdiv, v_mod, v_pow, v_lt, v_le, v_gt, v_ge, v_eq, v_ne, v_ixL, v_ixT, v_lenL, v_lenT, v_tupL, v_tupT, v_lstL, v_lstT, v_sum, v_sumT, v_all, v_any, v_neg, v_isN, v_notN, v_isT, v_notT, v_max, v_min, map_some', plain_one, isTys_one, List.getElem?_cons_zero, List.getElem?_cons_succ, List.set_cons_zero, List.set_cons_succ, List.cons_append, List.nil_append, List.map_cons, List.map_nil, arB, e_slcB, e_inRng, e_callV, e_callS, fnB_fn, i_wip, s_wipe, s_try, try_ret, try_exc, outR_ok, s_while, v_repr, v_revL, v_revT, v_intB, v_isF, v_notF, v_nil, cutT, cutL, cutN, cutS, cutD_list, List.replicate_succ, List.replicate_zero, c_are_numbers, plainTy, isTy, numsD]
theorem p_isrow (h : Rq_is_row P) (d : D) : Spec P 3 155 [.dat d] (.ok (.dat (.bool (rowD d))) []) := by
  cases d with
  | tuple xs => exact p_is_row h.1 h.2.1 h.2.2 xs
  | _ =>
    refine spec_of h.1 rfl fun K hK => ?_
    simp only [e_var, e_cst, e_gfn, e_op2, e_fn1, e_fn2, e_isi, e_and, e_or, e_not, e_ite, e_chain, e_lst, e_tup, e_emp, e_nil, e_cons, e_slcL, e_slcU, e_call, e_callIo, e_comp, e_compIf, i_of, i_rng1, i_rng2, i_enum, i_zip, s_nil, s_cons, s_set, s_unp, s_par, s_drop, s_ret, s_ite, s_for, s_raise, s_app, s_sti, t_C, t_If, t_F, look_dat, look_lst, look_dct, look_io, look_fn, look_exc, look_scr, ioCall_lst, ioCall_io, stB_lst, stB_io, seq_next, seq_ret, seq_exc, R.bind_ok, R.bind_exc, oR_some, oO_some, noX_ok, gd_true, br_true, br_false, tru_bool, intOf_int, ofO_some, ofS_some, ofOut_ok, ofOut_exc, op2_dat, op2_newL, op2_slot, opd_some, fn1_dat, fn1_newL, fn1_slot, fnd_some, fn1_scr, op2_scr', fn2_dat, peek_dat', peek_newL, peek_slot, pkB_lst, pkB_io, isi_dat, frz_dat, frz_newL, frz_newD, frz_slot, fzB_lst, frzs_nil, frzs_cons, args_nil, args_fn, args_scr, args_dat, args_newL, args_newD, args_slot, setB_eq, setO_un, setO_dat, setO_lst, setO_fn, setV_newL, setV_newD, setV_fn, setV_dat, setV_slot, setDs_nil, setDs_cons, setTg_name, setTg_names, seqOf_list, seqOf_tuple, tupOf_tuple, lstOf_lst, zipS_list, zipS_tuple, ownL_eq, ownB_lst, ownB_io, ofOutIo_ok, oioB_io, oioB_lst, retV_dat, retV_newL, retV_slot, rtB_lst, ownOk_nil, ownOk_cons, ownF_un, ownF_dat, wipeB_nil, wipeB_cons, backB_nil, backB_cons, getD_some', and_tt, v_lenS, v_ixS, seqOf_sq, gdU_true, retO_some, end_ret, end_next, end_exc, ioS_io, ioS_dat, ioS_fn, ioS_exc, ioS_scr, ioOf_io, ioOf_dat, ioOf_fn, ioOf_exc, ioOf_scr, isIo_io, isIo_dat, isIo_fn, isIo_exc, isIo_scr, beq_self_eq_true, gdO_true, v_add, v_addL, v_addT, v_sub, v_mul, v_mulL, v_mulT, v_fdiv, v_mod, v_pow, v_lt, v_le, v_gt, v_ge, v_eq, v_ne, v_ixL, v_ixT, v_lenL, v_lenT, v_tupL, v_tupT, v_lstL, v_lstT, v_sum, v_sumT, v_all, v_any, v_neg, v_isN, v_notN, v_isT, v_notT, v_max, v_min, map_some', plain_one, isTys_one, List.getElem?_cons_zero, List.getElem?_cons_succ, List.set_cons_zero, List.set_cons_succ, List.cons_append, List.nil_append, List.map_cons, List.map_nil, arB, e_slcB, e_inRng, e_callV, e_callS, fnB_fn, i_wip, s_wipe, s_try, try_ret, try_exc, outR_ok, s_while, v_repr, v_revL, v_revT, v_intB, v_isF, v_notF, v_nil, cutT, cutL, cutN, cutS, cutD_list, List.replicate_succ, List.replicate_zero, c_is_row, plainTy, isTy, rowD]
theorem p_chkrow (h : Rq_check_row P) (d : D) : Spec P 4 121 [.dat d] (if rowD d then .ok (.dat .none) [] else .exc 7 []) := by
  refine spec_of h.1 rfl fun K hK => ?_
  have h1 := p_isrow h.2 d K hK
  cases q : rowD d with
  | true => simp only [e_var, e_cst, e_gfn, e_op2, e_fn1, e_fn2, e_isi, e_and, e_or, e_not, e_ite, e_chain, e_lst, e_tup, e_emp, e_nil, e_cons, e_slcL, e_slcU, e_call, e_callIo, e_comp, e_compIf, i_of, i_rng1, i_rng2, i_enum, i_zip, s_nil, s_cons, s_set, s_unp, s_par, s_drop, s_ret, s_ite, s_for, s_raise, s_app, s_sti, t_C, t_If, t_F, look_dat, look_lst, look_dct, look_io, look_fn, look_exc, look_scr, ioCall_lst, ioCall_io, stB_lst, stB_io, seq_next, seq_ret, seq_exc, R.bind_ok, R.bind_exc, oR_some, oO_some, noX_ok, gd_true, br_true, br_false, tru_bool, intOf_int, ofO_some, ofS_some, ofOut_ok, ofOut_exc, op2_dat, op2_newL, op2_slot, opd_some, fn1_dat, fn1_newL, fn1_slot, fnd_some, fn1_scr, op2_scr', fn2_dat, peek_dat', peek_newL, peek_slot, pkB_lst, pkB_io, isi_dat, frz_dat, frz_newL, frz_newD, frz_slot, fzB_lst, frzs_nil, frzs_cons, args_nil, args_fn, args_scr, args_dat, args_newL, args_newD, args_slot, setB_eq, setO_un, setO_dat, setO_lst, setO_fn, setV_newL, setV_newD, setV_fn, setV_dat, setV_slot, setDs_nil, setDs_cons, setTg_name, setTg_names, seqOf_list, seqOf_tuple, tupOf_tuple, lstOf_lst, zipS_list, zipS_tuple, ownL_eq, ownB_lst, ownB_io, ofOutIo_ok, oioB_io, oioB_lst, retV_dat, retV_newL, retV_slot, rtB_lst, ownOk_nil, ownOk_cons, ownF_un, ownF_dat, wipeB_nil, wipeB_cons, backB_nil, backB_cons, getD_some', and_tt, v_lenS, v_ixS, seqOf_sq, gdU_true, retO_some, end_ret, end_next, end_exc, ioS_io, ioS_dat, ioS_fn, ioS_exc, ioS_scr, ioOf_io, ioOf_dat, ioOf_fn, ioOf_exc, ioOf_scr, isIo_io, isIo_dat, isIo_fn, isIo_exc, isIo_scr, beq_self_eq_true, gdO_true, v_add, v_addL, v_addT, v_sub, v_mul, v_mulL, v_mulT, v_fdiv, v_mod, v_pow, v_lt, v_le, v_gt, v_ge, v_eq, v_ne, v_ixL, v_ixT, v_lenL, v_lenT, v_tupL, v_tupT, v_lstL, v_lstT, v_sum, v_sumT, v_all, v_any, v_neg, v_isN, v_notN, v_isT, v_notT, v_max, v_min, map_some', plain_one, isTys_one, List.getElem?_cons_zero, List.getElem?_cons_succ, List.set_cons_zero, List.set_cons_succ, List.cons_append, List.nil_append, List.map_cons, List.map_nil, arB, e_slcB, e_inRng, e_callV, e_callS, fnB_fn, i_wip, s_wipe, s_try, try_ret, try_exc, outR_ok, s_while, v_repr, v_revL, v_revT, v_intB, v_isF, v_notF, v_nil, cutT, cutL, cutN, cutS, cutD_list, List.replicate_succ, List.replicate_zero, c_check_row, h1, q, Bool.not_true, if_true]
  | false => simp only [e_var, e_cst, e_gfn, e_op2, e_fn1, e_fn2, e_isi, e_and, e_or, e_not, e_ite, e_chain, e_lst, e_tup, e_emp, e_nil, e_cons, e_slcL, e_slcU, e_call, e_callIo, e_comp, e_compIf, i_of, i_rng1, i_rng2, i_enum, i_zip, s_nil, s_cons, s_set, s_unp, s_par, s_drop, s_ret, s_ite, s_for, s_raise, s_app, s_sti, t_C, t_If, t_F, look_dat, look_lst, look_dct, look_io, look_fn, look_exc, look_scr, ioCall_lst, ioCall_io, stB_lst, stB_io, seq_next, seq_ret, seq_exc, R.bind_ok, R.bind_exc, oR_some, oO_some, noX_ok, gd_true, br_true, br_false, tru_bool, intOf_int, ofO_some, ofS_some, ofOut_ok, ofOut_exc, op2_dat, op2_newL, op2_slot, opd_some, fn1_dat, fn1_newL, fn1_slot, fnd_some, fn1_scr, op2_scr', fn2_dat, peek_dat', peek_newL, peek_slot, pkB_lst, pkB_io, isi_dat, frz_dat, frz_newL, frz_newD, frz_slot, fzB_lst, frzs_nil, frzs_cons, args_nil, args_fn, args_scr, args_dat, args_newL, args_newD, args_slot, setB_eq, setO_un, setO_dat, setO_lst, setO_fn, setV_newL, setV_newD, setV_fn, setV_dat, setV_slot, setDs_nil, setDs_cons, setTg_name, setTg_names, seqOf_list, seqOf_tuple, tupOf_tuple, lstOf_lst, zipS_list, zipS_tuple, ownL_eq, ownB_lst, ownB_io, ofOutIo_ok, oioB_io, oioB_lst, retV_dat, retV_newL, retV_slot, rtB_lst, ownOk_nil, ownOk_cons, ownF_un, ownF_dat, wipeB_nil, wipeB_cons, backB_nil, backB_cons, getD_some', and_tt, v_lenS, v_ixS, seqOf_sq, gdU_true, retO_some, end_ret, end_next, end_exc, ioS_io, ioS_dat, ioS_fn, ioS_exc, ioS_scr, ioOf_io, ioOf_dat, ioOf_fn, ioOf_exc, ioOf_scr, isIo_io, isIo_dat, isIo_fn, isIo_exc, isIo_scr, beq_self_eq_true, gdO_true, v_add, v_addL, v_addT, v_sub, v_mul, v_mulL, v_mulT, v_fdiv, v_mod, v_pow, v_lt, v_le, v_gt, v_ge, v_eq, v_ne, v_ixL, v_ixT, v_lenL, v_lenT, v_tupL, v_tupT, v_lstL, v_lstT, v_sum, v_sumT, v_all, v_any, v_neg, v_isN, v_notN, v_isT, v_notT, v_max, v_min, map_some', plain_one, isTys_one, List.getElem?_cons_zero, List.getElem?_cons_succ, List.set_cons_zero, List.set_cons_succ, List.cons_append, List.nil_append, List.map_cons, List.map_nil, arB, e_slcB, e_inRng, e_callV, e_callS, fnB_fn, i_wip, s_wipe, s_try, try_ret, try_exc, outR_ok, s_while, v_repr, v_revL, v_revT, v_intB, v_isF, v_notF, v_nil, cutT, cutL, cutN, cutS, cutD_list, List.replicate_succ, List.replicate_zero, c_check_row, h1, q, Bool.not_false, if_false, Bool.false_eq_true]
theorem divOk_two : divOk 2 = true := by decide +kernel
theorem p_chkhalf (h : Rq_check_half P) (w n : D) : Spec P 3 116 [.dat w, .dat n] (match w with
    | .int i => if decide (0 ≤ i) && decide (i ≤ 11) then (if numsD (i / 2 + 1) n then .ok (.dat .none) [] else .exc 7 []) else .exc 8 []
    | _ => .exc 8 []) := by
  refine spec_of h.1 rfl fun K hK => ?_
  have nums : Rq_are_numbers P := by have := h.2; first | exact h.2.1 | exact h.2.2
  have upto : Rq_is_upto P := by have := h.2; first | exact h.2.2 | exact h.2.1
  have h1 := p_upto upto w 0 11 K hK
  cases w with
  | int i =>
    have h2 := p_nums nums n (i / 2 + 1) K hK
    show _ = (if decide (0 ≤ i) && decide (i ≤ 11) then (if numsD (i / 2 + 1) n then Out.ok (.dat .none) [] else .exc 7 []) else .exc 8 [])
    have e : uptoD 0 11 (.int i) = (decide (0 ≤ i) && decide (i ≤ 11)) := rfl
    rw [e] at h1
    cases q : decide (0 ≤ i) && decide (i ≤ 11) with
    | false =>
      rw [q] at h1
      simp only [e_var, e_cst, e_gfn, e_op2, e_fn1, e_fn2, e_isi, e_and, e_or, e_not, e_ite, e_chain, e_lst, e_tup, e_emp, e_nil, e_cons, e_slcL, e_slcU, e_call, e_callIo, e_comp, e_compIf, i_of, i_rng1, i_rng2, i_enum, i_zip, s_nil, s_cons, s_set, s_unp, s_par, s_drop, s_ret, s_ite, s_for, s_raise, s_app, s_sti, t_C, t_If, t_F, look_dat, look_lst, look_dct, look_io, look_fn, look_exc, look_scr, ioCall_lst, ioCall_io, stB_lst, stB_io, seq_next, seq_ret, seq_exc, R.bind_ok, R.bind_exc, oR_some, oO_some, noX_ok, gd_true, br_true, br_false, tru_bool, intOf_int, ofO_some, ofS_some, ofOut_ok, ofOut_exc, op2_dat, op2_newL, op2_slot, opd_some, fn1_dat, fn1_newL, fn1_slot, fnd_some, fn1_scr, op2_scr', fn2_dat, peek_dat', peek_newL, peek_slot, pkB_lst, pkB_io, isi_dat, frz_dat, frz_newL, frz_newD, frz_slot, fzB_lst, frzs_nil, frzs_cons, args_nil, args_fn, args_scr, args_dat, args_newL, args_newD, args_slot, setB_eq, setO_un, setO_dat, setO_lst, setO_fn, setV_newL, setV_newD, setV_fn, setV_dat, setV_slot, setDs_nil, setDs_cons, setTg_name, setTg_names, seqOf_list, seqOf_tuple, tupOf_tuple, lstOf_lst, zipS_list, zipS_tuple, ownL_eq, ownB_lst, ownB_io, ofOutIo_ok, oioB_io, oioB_lst, retV_dat, retV_newL, retV_slot, rtB_lst, ownOk_nil, ownOk_cons, ownF_un, ownF_dat, wipeB_nil, wipeB_cons, backB_nil, backB_cons, getD_some', and_tt, v_lenS, v_ixS, seqOf_sq, gdU_true, retO_some, end_ret, end_next, end_exc, ioS_io, ioS_dat, ioS_fn, ioS_exc, ioS_scr, ioOf_io, ioOf_dat, ioOf_fn, ioOf_exc, ioOf_scr, isIo_io, isIo_dat, isIo_fn, isIo_exc, isIo_scr, beq_self_eq_true, gdO_true, v_add, v_addL, v_addT, v_sub, v_mul, v_mulL, v_mulT, v_fdiv, v_mod, v_pow, v_lt, v_le, v_gt, v_ge, v_eq, v_ne, v_ixL, v_ixT, v_lenL, v_lenT, v_tupL, v_tupT, v_lstL, v_lstT, v_sum, v_sumT, v_all, v_any, v_neg, v_isN, v_notN, v_isT, v_notT, v_max, v_min, map_some', plain_one, isTys_one, List.getElem?_cons_zero, List.getElem?_cons_succ, List.set_cons_zero, List.set_cons_succ, List.cons_append, List.nil_append, List.map_cons, List.map_nil, arB, e_slcB, e_inRng, e_callV, e_callS, fnB_fn, i_wip, s_wipe, s_try, try_ret, try_exc, outR_ok, s_while, v_repr, v_revL, v_revT, v_intB, v_isF, v_notF, v_nil, cutT, cutL, cutN, cutS, cutD_list, List.replicate_succ, List.replicate_zero, c_check_half, h1, Bool.not_false, if_false, Bool.false_eq_true]
    | true =>
      rw [q] at h1
      cases q2 : numsD (i / 2 + 1) n with
      | true => simp only [e_var, e_cst, e_gfn, e_op2, e_fn1, e_fn2, e_isi, e_and, e_or, e_not, e_ite, e_chain, e_lst, e_tup, e_emp, e_nil, e_cons, e_slcL, e_slcU, e_call, e_callIo, e_comp, e_compIf, i_of, i_rng1, i_rng2, i_enum, i_zip, s_nil, s_cons, s_set, s_unp, s_par, s_drop, s_ret, s_ite, s_for, s_raise, s_app, s_sti, t_C, t_If, t_F, look_dat, look_lst, look_dct, look_io, look_fn, look_exc, look_scr, ioCall_lst, ioCall_io, stB_lst, stB_io, seq_next, seq_ret, seq_exc, R.bind_ok, R.bind_exc, oR_some, oO_some, noX_ok, gd_true, br_true, br_false, tru_bool, intOf_int, ofO_some, ofS_some, ofOut_ok, ofOut_exc, op2_dat, op2_newL, op2_slot, opd_some, fn1_dat, fn1_newL, fn1_slot, fnd_some, fn1_scr, op2_scr', fn2_dat, peek_dat', peek_newL, peek_slot, pkB_lst, pkB_io, isi_dat, frz_dat, frz_newL, frz_newD, frz_slot, fzB_lst, frzs_nil, frzs_cons, args_nil, args_fn, args_scr, args_dat, args_newL, args_newD, args_slot, setB_eq, setO_un, setO_dat, setO_lst, setO_fn, setV_newL, setV_newD, setV_fn, setV_dat, setV_slot, setDs_nil, setDs_cons, setTg_name, setTg_names, seqOf_list, seqOf_tuple, tupOf_tuple, lstOf_lst, zipS_list, zipS_tuple, ownL_eq, ownB_lst, ownB_io, ofOutIo_ok, oioB_io, oioB_lst, retV_dat, retV_newL, retV_slot, rtB_lst, ownOk_nil, ownOk_cons, ownF_un, ownF_dat, wipeB_nil, wipeB_cons, backB_nil, backB_cons, getD_some', and_tt, v_lenS, v_ixS, seqOf_sq, gdU_true, retO_some, end_ret, end_next, end_exc, ioS_io, ioS_dat, ioS_fn, ioS_exc, ioS_scr, ioOf_io, ioOf_dat, ioOf_fn, ioOf_exc, ioOf_scr, isIo_io, isIo_dat, isIo_fn, isIo_exc, isIo_scr, beq_self_eq_true, gdO_true, v_add, v_addL, v_addT, v_sub, v_mul, v_mulL, v_mulT, v_fdiv, v_mod, v_pow, v_lt, v_le, v_gt, v_ge, v_eq, v_ne, v_ixL, v_ixT, v_lenL, v_lenT, v_tupL, v_tupT, v_lstL, v_lstT, v_sum, v_sumT, v_all, v_any, v_neg, v_isN, v_notN, v_isT, v_notT, v_max, v_min, map_some', plain_one, isTys_one, List.getElem?_cons_zero, List.getElem?_cons_succ, List.set_cons_zero, List.set_cons_succ, List.cons_append, List.nil_append, List.map_cons, List.map_nil, arB, e_slcB, e_inRng, e_callV, e_callS, fnB_fn, i_wip, s_wipe, s_try, try_ret, try_exc, outR_ok, s_while, v_repr, v_revL, v_revT, v_intB, v_isF, v_notF, v_nil, cutT, cutL, cutN, cutS, cutD_list, List.replicate_succ, List.replicate_zero, c_check_half, h1, h2, q2, divOk_two, Bool.not_true, if_true]
      | false => simp only [e_var, e_cst, e_gfn, e_op2, e_fn1, e_fn2, e_isi, e_and, e_or, e_not, e_ite, e_chain, e_lst, e_tup, e_emp, e_nil, e_cons, e_slcL, e_slcU, e_call, e_callIo, e_comp, e_compIf, i_of, i_rng1, i_rng2, i_enum, i_zip, s_nil, s_cons, s_set, s_unp, s_par, s_drop, s_ret, s_ite, s_for, s_raise, s_app, s_sti, t_C, t_If, t_F, look_dat, look_lst, look_dct, look_io, look_fn, look_exc, look_scr, ioCall_lst, ioCall_io, stB_lst, stB_io, seq_next, seq_ret, seq_exc, R.bind_ok, R.bind_exc, oR_some, oO_some, noX_ok, gd_true, br_true, br_false, tru_bool, intOf_int, ofO_some, ofS_some, ofOut_ok, ofOut_exc, op2_dat, op2_newL, op2_slot, opd_some, fn1_dat, fn1_newL, fn1_slot, fnd_some, fn1_scr, op2_scr', fn2_dat, peek_dat', peek_newL, peek_slot, pkB_lst, pkB_io, isi_dat, frz_dat, frz_newL, frz_newD, frz_slot, fzB_lst, frzs_nil, frzs_cons, args_nil, args_fn, args_scr, args_dat, args_newL, args_newD, args_slot, setB_eq, setO_un, setO_dat, setO_lst, setO_fn, setV_newL, setV_newD, setV_fn, setV_dat, setV_slot, setDs_nil, setDs_cons, setTg_name, setTg_names, seqOf_list, seqOf_tuple, tupOf_tuple, lstOf_lst, zipS_list, zipS_tuple, ownL_eq, ownB_lst, ownB_io, ofOutIo_ok, oioB_io, oioB_lst, retV_dat, retV_newL, retV_slot, rtB_lst, ownOk_nil, ownOk_cons, ownF_un, ownF_dat, wipeB_nil, wipeB_cons, backB_nil, backB_cons, getD_some', and_tt, v_lenS, v_ixS, seqOf_sq, gdU_true, retO_some, end_ret, end_next, end_exc, ioS_io, ioS_dat, ioS_fn, ioS_exc, ioS_scr, ioOf_io, ioOf_dat, ioOf_fn, ioOf_exc, ioOf_scr, isIo_io, isIo_dat, isIo_fn, isIo_exc, isIo_scr, beq_self_eq_true, gdO_true, v_add, v_addL, v_addT, v_sub, v_mul, v_mulL, v_mulT, v_fdiv, v_mod, v_pow, v_lt, v_le, v_gt, v_ge, v_eq, v_ne, v_ixL, v_ixT, v_lenL, v_lenT, v_tupL, v_tupT, v_lstL, v_lstT, v_sum, v_sumT, v_all, v_any, v_neg, v_isN, v_notN, v_isT, v_notT, v_max, v_min, map_some', plain_one, isTys_one, List.getElem?_cons_zero, List.getElem?_cons_succ, List.set_cons_zero, List.set_cons_succ, List.cons_append, List.nil_append, List.map_cons, List.map_nil, arB, e_slcB, e_inRng, e_callV, e_callS, fnB_fn, i_wip, s_wipe, s_try, try_ret, try_exc, outR_ok, s_while, v_repr, v_revL, v_revT, v_intB, v_isF, v_notF, v_nil, cutT, cutL, cutN, cutS, cutD_list, List.replicate_succ, List.replicate_zero, c_check_half, h1, h2, q2, divOk_two, Bool.not_true, Bool.not_false, if_true, if_false, Bool.false_eq_true]
  | _ => simp only [e_var, e_cst, e_gfn, e_op2, e_fn1, e_fn2, e_isi, e_and, e_or, e_not, e_ite, e_chain, e_lst, e_tup, e_emp, e_nil, e_cons, e_slcL, e_slcU, e_call, e_callIo, e_comp, e_compIf, i_of, i_rng1, i_rng2, i_enum, i_zip, s_nil, s_cons, s_set, s_unp, s_par, s_drop, s_ret, s_ite, s_for, s_raise, s_app, s_sti, t_C, t_If, t_F, look_dat, look_lst, look_dct, look_io, look_fn, look_exc, look_scr, ioCall_lst, ioCall_io, stB_lst, stB_io, seq_next, seq_ret, seq_exc, R.bind_ok, R.bind_exc, oR_some, oO_some, noX_ok, gd_true, br_true, br_false, tru_bool, intOf_int, ofO_some, ofS_some, ofOut_ok, ofOut_exc, op2_dat, op2_newL, op2_slot, opd_some, fn1_dat, fn1_newL, fn1_slot, fnd_some, fn1_scr, op2_scr', fn2_dat, peek_dat', peek_newL, peek_slot, pkB_lst, pkB_io, isi_dat, frz_dat, frz_newL, frz_newD, frz_slot, fzB_lst, frzs_nil, frzs_cons, args_nil, args_fn, args_scr, args_dat, args_newL, args_newD, args_slot, setB_eq, setO_un, setO_dat, setO_lst, setO_fn, setV_newL, setV_newD, setV_fn, setV_dat, setV_slot, setDs_nil, setDs_cons, setTg_name, setTg_names, seqOf_list, seqOf_tuple, tupOf_tuple, lstOf_lst, zipS_list, zipS_tuple, ownL_eq, ownB_lst, ownB_io, ofOutIo_ok, oioB_io, oioB_lst, retV_dat, retV_newL, retV_slot, rtB_lst, ownOk_nil, ownOk_cons, ownF_un, ownF_dat, wipeB_nil, wipeB_cons, backB_nil, backB_cons, getD_some', and_tt, v_lenS, v_ixS, seqOf_sq, gdU_true, retO_some, end_ret, end_next, end_exc, ioS_io, ioS_dat, ioS_fn, ioS_exc, ioS_scr, ioOf_io, ioOf_dat, ioOf_fn, ioOf_exc, ioOf_scr, isIo_io, isIo_dat, isIo_fn, isIo_exc, isIo_scr, beq_self_eq_true, gdO_true, v_add, v_addL, v_addT, v_sub, v_mul, v_mulL, v_mulT, v_fdiv, v_mod, v_pow, v_lt, v_le, v_gt, v_ge, v_eq, v_ne, v_ixL, v_ixT, v_lenL, v_lenT, v_tupL, v_tupT, v_lstL, v_lstT, v_sum, v_sumT, v_all, v_any, v_neg, v_isN, v_notN, v_isT, v_notT, v_max, v_min, map_some', plain_one, isTys_one, List.getElem?_cons_zero, List.getElem?_cons_succ, List.set_cons_zero, List.set_cons_succ, List.cons_append, List.nil_append, List.map_cons, List.map_nil, arB, e_slcB, e_inRng, e_callV, e_callS, fnB_fn, i_wip, s_wipe, s_try, try_ret, try_exc, outR_ok, s_while, v_repr, v_revL, v_revT, v_intB, v_isF, v_notF, v_nil, cutT, cutL, cutN, cutS, cutD_list, List.replicate_succ, List.replicate_zero, c_check_half, h1, uptoD, Bool.not_false]
theorem q_by_steps_of (h : Rq_by_steps_of P) {w : Nat} {ns : List Int} {b : Nat} (q : Bool) (h1 : w ≤ 11) (h2 : ns.length = w / 2 + 1) (hB : Bd b (psum ns)) (hb2 : b ≤ 9000) : Spec P 4 112 [.dat (.int (w : Nat)), .dat (sq q (ns.map .int))] (.ok (.dat (tupI (bkL (evL w (psum ns))))) []) :=
  p_by_steps_ofQ h.1 h.2.1 h.2.2.1 h.2.2.2 q h1 h2 hB hb2
theorem q_by_steps (h : Rq_by_steps P) {w : Nat} {ns : List Int} {b : Nat} (h1 : w ≤ 11) (h2 : ns.length = w / 2 + 1) (hB : Bd b (psum ns)) (hb2 : b ≤ 9000) : Spec P 5 111 [.dat (.int (w : Nat)), .dat (tupI ns)] (.ok (.dat (tupI (bkL (evL w (psum ns))))) []) :=
  p_by_steps h.1 h.2.1.1 h.2.1.2.1.1 h.2.1.2.2.1 h.2.1.2.1.2 h.2.2.1 h.2.2.2.1 h.2.2.2.2.1 h.2.2.2.2.2 h1 h2 hB hb2
theorem q_by_half (h : Rq_by_half P) {w : Nat} {ns : List Int} {b : Nat} (h1 : w ≤ 11) (h2 : ns.length = w / 2 + 1) (hB0 : Bd b ns) (hB : Bd b (trL (w : Nat) ns)) (hb2 : b ≤ 9000) : Spec P 5 110 [.dat (.int (w : Nat)), .dat (tupI ns)] (.ok (.dat (tupI (bkL (evL w (trL (w : Nat) ns))))) []) :=
  p_by_half h.1 h.2.1.1 h.2.1.2.1.1 h.2.1.2.2.1 h.2.1.2.1.2 h.2.2.2.1 h.2.2.1.1 h.2.2.1.2.1 h.2.2.2.2 h1 h2 hB0 hB hb2
/-! ### sameness -/
theorem p_lwhole (h : Rq__law_whole P) (d : D) : Spec P 1 92 [.dat d] (.ok (.dat (.bool (isIntD d))) []) := by
  refine spec_of h rfl fun K hK => ?_
  cases d <;> simp only [e_var, e_cst, e_gfn, e_op2, e_fn1, e_fn2, e_isi, e_and, e_or, e_not, e_ite, e_chain, e_lst, e_tup, e_emp, e_nil, e_cons, e_slcL, e_slcU, e_call, e_callIo, e_comp, e_compIf, i_of, i_rng1, i_rng2, i_enum, i_zip, s_nil, s_cons, s_set, s_unp, s_par, s_drop, s_ret, s_ite, s_for, s_raise, s_app, s_sti, t_C, t_If, t_F, look_dat, look_lst, look_dct, look_io, look_fn, look_exc, look_scr, ioCall_lst, ioCall_io, stB_lst, stB_io, seq_next, seq_ret, seq_exc, R.bind_ok, R.bind_exc, oR_some, oO_some, noX_ok, gd_true, br_true, br_false, tru_bool, intOf_int, ofO_some, ofS_some, ofOut_ok, ofOut_exc, op2_dat, op2_newL, op2_slot, opd_some, fn1_dat, fn1_newL, fn1_slot, fnd_some, fn1_scr, op2_scr', fn2_dat, peek_dat', peek_newL, peek_slot, pkB_lst, pkB_io, isi_dat, frz_dat, frz_newL, frz_newD, frz_slot, fzB_lst, frzs_nil, frzs_cons, args_nil, args_fn, args_scr, args_dat, args_newL, args_newD, args_slot, setB_eq, setO_un, setO_dat, setO_lst, setO_fn, setV_newL, setV_newD, setV_fn, setV_dat, setV_slot, setDs_nil, setDs_cons, setTg_name, setTg_names, seqOf_list, seqOf_tuple, tupOf_tuple, lstOf_lst, zipS_list, zipS_tuple, ownL_eq, ownB_lst, ownB_io, ofOutIo_ok, oioB_io, oioB_lst, retV_dat, retV_newL, retV_slot, rtB_lst, ownOk_nil, ownOk_cons, ownF_un, ownF_dat, wipeB_nil, wipeB_cons, backB_nil, backB_cons, getD_some', and_tt, v_lenS, v_ixS, seqOf_sq, gdU_true, retO_some, end_ret, end_next, end_exc, ioS_io, ioS_dat, ioS_fn, ioS_exc, ioS_scr, ioOf_io, ioOf_dat, ioOf_fn, ioOf_exc, ioOf_scr, isIo_io, isIo_dat, isIo_fn, isIo_exc, isIo_scr, beq_self_eq_true, gdO_true, v_add, v_addL, v_addT, v_sub, v_mul, v_mulL, v_mulT, v_fdiv, v_mod, v_pow, v_lt, v_le, v_gt, v_ge, v_eq, v_ne, v_ixL, v_ixT, v_lenL, v_lenT, v_tupL, v_tupT, v_lstL, v_lstT, v_sum, v_sumT, v_all, v_any, v_neg, v_isN, v_notN, v_isT, v_notT, v_max, v_min, map_some', plain_one, isTys_one, List.getElem?_cons_zero, List.getElem?_cons_succ, List.set_cons_zero, List.set_cons_succ, List.cons_append, List.nil_append, List.map_cons, List.map_nil, arB, e_slcB, e_inRng, e_callV, e_callS, fnB_fn, i_wip, s_wipe, s_try, try_ret, try_exc, outR_ok, s_while, v_repr, v_revL, v_revT, v_intB, v_isF, v_notF, v_nil, cutT, cutL, cutN, cutS, cutD_list, List.replicate_succ, List.replicate_zero, c__law_whole, plainTy, isTy, isIntD, Bool.not_true, Bool.not_false]
theorem zip_self : ∀ xs : List D, zipD xs xs = xs.map fun x => .tuple [x, x]
  | [] => rfl
  | x :: xs => by rw [List.map_cons, ← zip_self xs]; rfl
theorem all_true (xs : List D) : evFn1 .all (.list (xs.map fun _ => PyData.bool true)) = some (.dat (.bool true)) := by
  rw [show (xs.map fun _ => PyData.bool true) = (xs.map fun _ => true).map PyData.bool by rw [List.map_map]; rfl, v_all]
  congr 3
  rw [List.all_map]
  exact List.all_eq_true.mpr fun _ _ => rfl
theorem eqv_none : PyData.eqv .none .none = true := by rw [PyData.eqv]
theorem p_same (h : Rq__law_same P) : ∀ (n : Nat) (d : D), fit n d = true → Spec P (n + 2) 73 [.dat d, .dat d] (.ok (.dat (.bool true)) []) := by
  intro n
  induction n with
  | zero =>
    intro d hd
    refine spec_of h.1 rfl fun K hK => ?_
    cases d with
    | list xs => cases hd
    | tuple xs => cases hd
    | dict _ => cases hd
    | int i =>
      have h1 := p_lwhole h.2 (.int i) K (by omega)
      simp only [e_var, e_cst, e_gfn, e_op2, e_fn1, e_fn2, e_isi, e_and, e_or, e_not, e_ite, e_chain, e_lst, e_tup, e_emp, e_nil, e_cons, e_slcL, e_slcU, e_call, e_callIo, e_comp, e_compIf, i_of, i_rng1, i_rng2, i_enum, i_zip, s_nil, s_cons, s_set, s_unp, s_par, s_drop, s_ret, s_ite, s_for, s_raise, s_app, s_sti, t_C, t_If, t_F, look_dat, look_lst, look_dct, look_io, look_fn, look_exc, look_scr, ioCall_lst, ioCall_io, stB_lst, stB_io, seq_next, seq_ret, seq_exc, R.bind_ok, R.bind_exc, oR_some, oO_some, noX_ok, gd_true, br_true, br_false, tru_bool, intOf_int, ofO_some, ofS_some, ofOut_ok, ofOut_exc, op2_dat, op2_newL, op2_slot, opd_some, fn1_dat, fn1_newL, fn1_slot, fnd_some, fn1_scr, op2_scr', fn2_dat, peek_dat', peek_newL, peek_slot, pkB_lst, pkB_io, isi_dat, frz_dat, frz_newL, frz_newD, frz_slot, fzB_lst, frzs_nil, frzs_cons, args_nil, args_fn, args_scr, args_dat, args_newL, args_newD, args_slot, setB_eq, setO_un, setO_dat, setO_lst, setO_fn, setV_newL, setV_newD, setV_fn, setV_dat, setV_slot, setDs_nil, setDs_cons, setTg_name, setTg_names, seqOf_list, seqOf_tuple, tupOf_tuple, lstOf_lst, zipS_list, zipS_tuple, ownL_eq, ownB_lst, ownB_io, ofOutIo_ok, oioB_io, oioB_lst, retV_dat, retV_newL, retV_slot, rtB_lst, ownOk_nil, ownOk_cons, ownF_un, ownF_dat, wipeB_nil, wipeB_cons, backB_nil, backB_cons, getD_some', and_tt, v_lenS, v_ixS, seqOf_sq, gdU_true, retO_some, end_ret, end_next, end_exc, ioS_io, ioS_dat, ioS_fn, ioS_exc, ioS_scr, ioOf_io, ioOf_dat, ioOf_fn, ioOf_exc, ioOf_scr, isIo_io, isIo_dat, isIo_fn, isIo_exc, isIo_scr, beq_self_eq_true, gdO_true, v_add, v_addL, v_addT, v_sub, v_mul, v_mulL, v_mulT, v_fdiv, v_mod, v_pow, v_lt, v_le, v_gt, v_ge, v_eq, v_ne, v_ixL, v_ixT, v_lenL, v_lenT, v_tupL, v_tupT, v_lstL, v_lstT, v_sum, v_sumT, v_all, v_any, v_neg, v_isN, v_notN, v_isT, v_notT, v_max, v_min, map_some', plain_one, isTys_one, List.getElem?_cons_zero, List.getElem?_cons_succ, List.set_cons_zero, List.set_cons_succ, List.cons_append, List.nil_append, List.map_cons, List.map_nil, arB, e_slcB, e_inRng, e_callV, e_callS, fnB_fn, i_wip, s_wipe, s_try, try_ret, try_exc, outR_ok, s_while, v_repr, v_revL, v_revT, v_intB, v_isF, v_notF, v_nil, cutT, cutL, cutN, cutS, cutD_list, List.replicate_succ, List.replicate_zero, c__law_same, plainTy, isTy, isTys, List.any_cons, List.any_nil, List.all_cons, List.all_nil, Bool.or_self, Bool.and_self, isNone, h1, isIntD, fit_int, eqv_int, decide_true]
    | none => simp only [e_var, e_cst, e_gfn, e_op2, e_fn1, e_fn2, e_isi, e_and, e_or, e_not, e_ite, e_chain, e_lst, e_tup, e_emp, e_nil, e_cons, e_slcL, e_slcU, e_call, e_callIo, e_comp, e_compIf, i_of, i_rng1, i_rng2, i_enum, i_zip, s_nil, s_cons, s_set, s_unp, s_par, s_drop, s_ret, s_ite, s_for, s_raise, s_app, s_sti, t_C, t_If, t_F, look_dat, look_lst, look_dct, look_io, look_fn, look_exc, look_scr, ioCall_lst, ioCall_io, stB_lst, stB_io, seq_next, seq_ret, seq_exc, R.bind_ok, R.bind_exc, oR_some, oO_some, noX_ok, gd_true, br_true, br_false, tru_bool, intOf_int, ofO_some, ofS_some, ofOut_ok, ofOut_exc, op2_dat, op2_newL, op2_slot, opd_some, fn1_dat, fn1_newL, fn1_slot, fnd_some, fn1_scr, op2_scr', fn2_dat, peek_dat', peek_newL, peek_slot, pkB_lst, pkB_io, isi_dat, frz_dat, frz_newL, frz_newD, frz_slot, fzB_lst, frzs_nil, frzs_cons, args_nil, args_fn, args_scr, args_dat, args_newL, args_newD, args_slot, setB_eq, setO_un, setO_dat, setO_lst, setO_fn, setV_newL, setV_newD, setV_fn, setV_dat, setV_slot, setDs_nil, setDs_cons, setTg_name, setTg_names, seqOf_list, seqOf_tuple, tupOf_tuple, lstOf_lst, zipS_list, zipS_tuple, ownL_eq, ownB_lst, ownB_io, ofOutIo_ok, oioB_io, oioB_lst, retV_dat, retV_newL, retV_slot, rtB_lst, ownOk_nil, ownOk_cons, ownF_un, ownF_dat, wipeB_nil, wipeB_cons, backB_nil, backB_cons, getD_some', and_tt, v_lenS, v_ixS, seqOf_sq, gdU_true, retO_some, end_ret, end_next, end_exc, ioS_io, ioS_dat, ioS_fn, ioS_exc, ioS_scr, ioOf_io, ioOf_dat, ioOf_fn, ioOf_exc, ioOf_scr, isIo_io, isIo_dat, isIo_fn, isIo_exc, isIo_scr, beq_self_eq_true, gdO_true, v_add, v_addL, v_addT, v_sub, v_mul, v_mulL, v_mulT, v_fdiv, v_mod, v_pow, v_lt, v_le, v_gt, v_ge, v_eq, v_ne, v_ixL, v_ixT, v_lenL, v_lenT, v_tupL, v_tupT, v_lstL, v_lstT, v_sum, v_sumT, v_all, v_any, v_neg, v_isN, v_notN, v_isT, v_notT, v_max, v_min, map_some', plain_one, isTys_one, List.getElem?_cons_zero, List.getElem?_cons_succ, List.set_cons_zero, List.set_cons_succ, List.cons_append, List.nil_append, List.map_cons, List.map_nil, arB, e_slcB, e_inRng, e_callV, e_callS, fnB_fn, i_wip, s_wipe, s_try, try_ret, try_exc, outR_ok, s_while, v_repr, v_revL, v_revT, v_intB, v_isF, v_notF, v_nil, cutT, cutL, cutN, cutS, cutD_list, List.replicate_succ, List.replicate_zero, c__law_same, plainTy, isTy, isTys, List.any_cons, List.any_nil, List.all_cons, List.all_nil, Bool.or_self, Bool.and_self, isNone, fit_none, eqv_none, eqv_bool, fit_bool, decide_true]
    | bool b => simp only [e_var, e_cst, e_gfn, e_op2, e_fn1, e_fn2, e_isi, e_and, e_or, e_not, e_ite, e_chain, e_lst, e_tup, e_emp, e_nil, e_cons, e_slcL, e_slcU, e_call, e_callIo, e_comp, e_compIf, i_of, i_rng1, i_rng2, i_enum, i_zip, s_nil, s_cons, s_set, s_unp, s_par, s_drop, s_ret, s_ite, s_for, s_raise, s_app, s_sti, t_C, t_If, t_F, look_dat, look_lst, look_dct, look_io, look_fn, look_exc, look_scr, ioCall_lst, ioCall_io, stB_lst, stB_io, seq_next, seq_ret, seq_exc, R.bind_ok, R.bind_exc, oR_some, oO_some, noX_ok, gd_true, br_true, br_false, tru_bool, intOf_int, ofO_some, ofS_some, ofOut_ok, ofOut_exc, op2_dat, op2_newL, op2_slot, opd_some, fn1_dat, fn1_newL, fn1_slot, fnd_some, fn1_scr, op2_scr', fn2_dat, peek_dat', peek_newL, peek_slot, pkB_lst, pkB_io, isi_dat, frz_dat, frz_newL, frz_newD, frz_slot, fzB_lst, frzs_nil, frzs_cons, args_nil, args_fn, args_scr, args_dat, args_newL, args_newD, args_slot, setB_eq, setO_un, setO_dat, setO_lst, setO_fn, setV_newL, setV_newD, setV_fn, setV_dat, setV_slot, setDs_nil, setDs_cons, setTg_name, setTg_names, seqOf_list, seqOf_tuple, tupOf_tuple, lstOf_lst, zipS_list, zipS_tuple, ownL_eq, ownB_lst, ownB_io, ofOutIo_ok, oioB_io, oioB_lst, retV_dat, retV_newL, retV_slot, rtB_lst, ownOk_nil, ownOk_cons, ownF_un, ownF_dat, wipeB_nil, wipeB_cons, backB_nil, backB_cons, getD_some', and_tt, v_lenS, v_ixS, seqOf_sq, gdU_true, retO_some, end_ret, end_next, end_exc, ioS_io, ioS_dat, ioS_fn, ioS_exc, ioS_scr, ioOf_io, ioOf_dat, ioOf_fn, ioOf_exc, ioOf_scr, isIo_io, isIo_dat, isIo_fn, isIo_exc, isIo_scr, beq_self_eq_true, gdO_true, v_add, v_addL, v_addT, v_sub, v_mul, v_mulL, v_mulT, v_fdiv, v_mod, v_pow, v_lt, v_le, v_gt, v_ge, v_eq, v_ne, v_ixL, v_ixT, v_lenL, v_lenT, v_tupL, v_tupT, v_lstL, v_lstT, v_sum, v_sumT, v_all, v_any, v_neg, v_isN, v_notN, v_isT, v_notT, v_max, v_min, map_some', plain_one, isTys_one, List.getElem?_cons_zero, List.getElem?_cons_succ, List.set_cons_zero, List.set_cons_succ, List.cons_append, List.nil_append, List.map_cons, List.map_nil, arB, e_slcB, e_inRng, e_callV, e_callS, fnB_fn, i_wip, s_wipe, s_try, try_ret, try_exc, outR_ok, s_while, v_repr, v_revL, v_revT, v_intB, v_isF, v_notF, v_nil, cutT, cutL, cutN, cutS, cutD_list, List.replicate_succ, List.replicate_zero, c__law_same, plainTy, isTy, isTys, List.any_cons, List.any_nil, List.all_cons, List.all_nil, Bool.or_self, Bool.or_true, Bool.true_or, Bool.or_false, Bool.and_self, isNone, fit_bool, eqv_bool, decide_true]
    | str x => simp only [e_var, e_cst, e_gfn, e_op2, e_fn1, e_fn2, e_isi, e_and, e_or, e_not, e_ite, e_chain, e_lst, e_tup, e_emp, e_nil, e_cons, e_slcL, e_slcU, e_call, e_callIo, e_comp, e_compIf, i_of, i_rng1, i_rng2, i_enum, i_zip, s_nil, s_cons, s_set, s_unp, s_par, s_drop, s_ret, s_ite, s_for, s_raise, s_app, s_sti, t_C, t_If, t_F, look_dat, look_lst, look_dct, look_io, look_fn, look_exc, look_scr, ioCall_lst, ioCall_io, stB_lst, stB_io, seq_next, seq_ret, seq_exc, R.bind_ok, R.bind_exc, oR_some, oO_some, noX_ok, gd_true, br_true, br_false, tru_bool, intOf_int, ofO_some, ofS_some, ofOut_ok, ofOut_exc, op2_dat, op2_newL, op2_slot, opd_some, fn1_dat, fn1_newL, fn1_slot, fnd_some, fn1_scr, op2_scr', fn2_dat, peek_dat', peek_newL, peek_slot, pkB_lst, pkB_io, isi_dat, frz_dat, frz_newL, frz_newD, frz_slot, fzB_lst, frzs_nil, frzs_cons, args_nil, args_fn, args_scr, args_dat, args_newL, args_newD, args_slot, setB_eq, setO_un, setO_dat, setO_lst, setO_fn, setV_newL, setV_newD, setV_fn, setV_dat, setV_slot, setDs_nil, setDs_cons, setTg_name, setTg_names, seqOf_list, seqOf_tuple, tupOf_tuple, lstOf_lst, zipS_list, zipS_tuple, ownL_eq, ownB_lst, ownB_io, ofOutIo_ok, oioB_io, oioB_lst, retV_dat, retV_newL, retV_slot, rtB_lst, ownOk_nil, ownOk_cons, ownF_un, ownF_dat, wipeB_nil, wipeB_cons, backB_nil, backB_cons, getD_some', and_tt, v_lenS, v_ixS, seqOf_sq, gdU_true, retO_some, end_ret, end_next, end_exc, ioS_io, ioS_dat, ioS_fn, ioS_exc, ioS_scr, ioOf_io, ioOf_dat, ioOf_fn, ioOf_exc, ioOf_scr, isIo_io, isIo_dat, isIo_fn, isIo_exc, isIo_scr, beq_self_eq_true, gdO_true, v_add, v_addL, v_addT, v_sub, v_mul, v_mulL, v_mulT, v_fdiv, v_mod, v_pow, v_lt, v_le, v_gt, v_ge, v_eq, v_ne, v_ixL, v_ixT, v_lenL, v_lenT, v_tupL, v_tupT, v_lstL, v_lstT, v_sum, v_sumT, v_all, v_any, v_neg, v_isN, v_notN, v_isT, v_notT, v_max, v_min, map_some', plain_one, isTys_one, List.getElem?_cons_zero, List.getElem?_cons_succ, List.set_cons_zero, List.set_cons_succ, List.cons_append, List.nil_append, List.map_cons, List.map_nil, arB, e_slcB, e_inRng, e_callV, e_callS, fnB_fn, i_wip, s_wipe, s_try, try_ret, try_exc, outR_ok, s_while, v_repr, v_revL, v_revT, v_intB, v_isF, v_notF, v_nil, cutT, cutL, cutN, cutS, cutD_list, List.replicate_succ, List.replicate_zero, c__law_same, plainTy, isTy, isTys, List.any_cons, List.any_nil, List.all_cons, List.all_nil, Bool.or_self, Bool.or_true, Bool.true_or, Bool.or_false, Bool.and_self, isNone, fit_str, eqv_str, fit_bool, eqv_bool, decide_true]
  | succ n ih =>
    intro d hd
    cases d with
    | dict _ => cases hd
    | list xs =>
      refine spec_of h.1 rfl fun K hK => ?_
      simp only [e_var, e_cst, e_gfn, e_op2, e_fn1, e_fn2, e_isi, e_and, e_or, e_not, e_ite, e_chain, e_lst, e_tup, e_emp, e_nil, e_cons, e_slcL, e_slcU, e_call, e_callIo, e_comp, e_compIf, i_of, i_rng1, i_rng2, i_enum, i_zip, s_nil, s_cons, s_set, s_unp, s_par, s_drop, s_ret, s_ite, s_for, s_raise, s_app, s_sti, t_C, t_If, t_F, look_dat, look_lst, look_dct, look_io, look_fn, look_exc, look_scr, ioCall_lst, ioCall_io, stB_lst, stB_io, seq_next, seq_ret, seq_exc, R.bind_ok, R.bind_exc, oR_some, oO_some, noX_ok, gd_true, br_true, br_false, tru_bool, intOf_int, ofO_some, ofS_some, ofOut_ok, ofOut_exc, op2_dat, op2_newL, op2_slot, opd_some, fn1_dat, fn1_newL, fn1_slot, fnd_some, fn1_scr, op2_scr', fn2_dat, peek_dat', peek_newL, peek_slot, pkB_lst, pkB_io, isi_dat, frz_dat, frz_newL, frz_newD, frz_slot, fzB_lst, frzs_nil, frzs_cons, args_nil, args_fn, args_scr, args_dat, args_newL, args_newD, args_slot, setB_eq, setO_un, setO_dat, setO_lst, setO_fn, setV_newL, setV_newD, setV_fn, setV_dat, setV_slot, setDs_nil, setDs_cons, setTg_name, setTg_names, seqOf_list, seqOf_tuple, tupOf_tuple, lstOf_lst, zipS_list, zipS_tuple, ownL_eq, ownB_lst, ownB_io, ofOutIo_ok, oioB_io, oioB_lst, retV_dat, retV_newL, retV_slot, rtB_lst, ownOk_nil, ownOk_cons, ownF_un, ownF_dat, wipeB_nil, wipeB_cons, backB_nil, backB_cons, getD_some', and_tt, v_lenS, v_ixS, seqOf_sq, gdU_true, retO_some, end_ret, end_next, end_exc, ioS_io, ioS_dat, ioS_fn, ioS_exc, ioS_scr, ioOf_io, ioOf_dat, ioOf_fn, ioOf_exc, ioOf_scr, isIo_io, isIo_dat, isIo_fn, isIo_exc, isIo_scr, beq_self_eq_true, gdO_true, v_add, v_addL, v_addT, v_sub, v_mul, v_mulL, v_mulT, v_fdiv, v_mod, v_pow, v_lt, v_le, v_gt, v_ge, v_eq, v_ne, v_ixL, v_ixT, v_lenL, v_lenT, v_tupL, v_tupT, v_lstL, v_lstT, v_sum, v_sumT, v_all, v_any, v_neg, v_isN, v_notN, v_isT, v_notT, v_max, v_min, map_some', plain_one, isTys_one, List.getElem?_cons_zero, List.getElem?_cons_succ, List.set_cons_zero, List.set_cons_succ, List.cons_append, List.nil_append, List.map_cons, List.map_nil, arB, e_slcB, e_inRng, e_callV, e_callS, fnB_fn, i_wip, s_wipe, s_try, try_ret, try_exc, outR_ok, s_while, v_repr, v_revL, v_revT, v_intB, v_isF, v_notF, v_nil, cutT, cutL, cutN, cutS, cutD_list, List.replicate_succ, List.replicate_zero, c__law_same, plainTy, isTy, isTys, List.any_cons, List.any_nil, List.all_cons, List.all_nil, Bool.or_self, Bool.or_true, Bool.true_or, Bool.or_false, Bool.and_self, fit_bool, eqv_bool, fit_int, eqv_int, decide_true, Bool.not_true, zip_self]
      generalize hL : loopC _ _ _ _ = L
      have := comp_eq hL (fun _ => .bool true) fun x hx => by
        obtain ⟨y, hy, rfl⟩ := List.mem_map.mp hx
        have h1 := ih y (List.all_eq_true.mp hd y hy) K (by omega)
        simp only [e_var, e_cst, e_gfn, e_op2, e_fn1, e_fn2, e_isi, e_and, e_or, e_not, e_ite, e_chain, e_lst, e_tup, e_emp, e_nil, e_cons, e_slcL, e_slcU, e_call, e_callIo, e_comp, e_compIf, i_of, i_rng1, i_rng2, i_enum, i_zip, s_nil, s_cons, s_set, s_unp, s_par, s_drop, s_ret, s_ite, s_for, s_raise, s_app, s_sti, t_C, t_If, t_F, look_dat, look_lst, look_dct, look_io, look_fn, look_exc, look_scr, ioCall_lst, ioCall_io, stB_lst, stB_io, seq_next, seq_ret, seq_exc, R.bind_ok, R.bind_exc, oR_some, oO_some, noX_ok, gd_true, br_true, br_false, tru_bool, intOf_int, ofO_some, ofS_some, ofOut_ok, ofOut_exc, op2_dat, op2_newL, op2_slot, opd_some, fn1_dat, fn1_newL, fn1_slot, fnd_some, fn1_scr, op2_scr', fn2_dat, peek_dat', peek_newL, peek_slot, pkB_lst, pkB_io, isi_dat, frz_dat, frz_newL, frz_newD, frz_slot, fzB_lst, frzs_nil, frzs_cons, args_nil, args_fn, args_scr, args_dat, args_newL, args_newD, args_slot, setB_eq, setO_un, setO_dat, setO_lst, setO_fn, setV_newL, setV_newD, setV_fn, setV_dat, setV_slot, setDs_nil, setDs_cons, setTg_name, setTg_names, seqOf_list, seqOf_tuple, tupOf_tuple, lstOf_lst, zipS_list, zipS_tuple, ownL_eq, ownB_lst, ownB_io, ofOutIo_ok, oioB_io, oioB_lst, retV_dat, retV_newL, retV_slot, rtB_lst, ownOk_nil, ownOk_cons, ownF_un, ownF_dat, wipeB_nil, wipeB_cons, backB_nil, backB_cons, getD_some', and_tt, v_lenS, v_ixS, seqOf_sq, gdU_true, retO_some, end_ret, end_next, end_exc, ioS_io, ioS_dat, ioS_fn, ioS_exc, ioS_scr, ioOf_io, ioOf_dat, ioOf_fn, ioOf_exc, ioOf_scr, isIo_io, isIo_dat, isIo_fn, isIo_exc, isIo_scr, beq_self_eq_true, gdO_true, v_add, v_addL, v_addT, v_sub, v_mul, v_mulL, v_mulT, v_fdiv, v_mod, v_pow, v_lt, v_le, v_gt, v_ge, v_eq, v_ne, v_ixL, v_ixT, v_lenL, v_lenT, v_tupL, v_tupT, v_lstL, v_lstT, v_sum, v_sumT, v_all, v_any, v_neg, v_isN, v_notN, v_isT, v_notT, v_max, v_min, map_some', plain_one, isTys_one, List.getElem?_cons_zero, List.getElem?_cons_succ, List.set_cons_zero, List.set_cons_succ, List.cons_append, List.nil_append, List.map_cons, List.map_nil, arB, e_slcB, e_inRng, e_callV, e_callS, fnB_fn, i_wip, s_wipe, s_try, try_ret, try_exc, outR_ok, s_while, v_repr, v_revL, v_revT, v_intB, v_isF, v_notF, v_nil, cutT, cutL, cutN, cutS, cutD_list, List.replicate_succ, List.replicate_zero, h1]
      subst this
      simp only [e_var, e_cst, e_gfn, e_op2, e_fn1, e_fn2, e_isi, e_and, e_or, e_not, e_ite, e_chain, e_lst, e_tup, e_emp, e_nil, e_cons, e_slcL, e_slcU, e_call, e_callIo, e_comp, e_compIf, i_of, i_rng1, i_rng2, i_enum, i_zip, s_nil, s_cons, s_set, s_unp, s_par, s_drop, s_ret, s_ite, s_for, s_raise, s_app, s_sti, t_C, t_If, t_F, look_dat, look_lst, look_dct, look_io, look_fn, look_exc, look_scr, ioCall_lst, ioCall_io, stB_lst, stB_io, seq_next, seq_ret, seq_exc, R.bind_ok, R.bind_exc, oR_some, oO_some, noX_ok, gd_true, br_true, br_false, tru_bool, intOf_int, ofO_some, ofS_some, ofOut_ok, ofOut_exc, op2_dat, op2_newL, op2_slot, opd_some, fn1_dat, fn1_newL, fn1_slot, fnd_some, fn1_scr, op2_scr', fn2_dat, peek_dat', peek_newL, peek_slot, pkB_lst, pkB_io, isi_dat, frz_dat, frz_newL, frz_newD, frz_slot, fzB_lst, frzs_nil, frzs_cons, args_nil, args_fn, args_scr, args_dat, args_newL, args_newD, args_slot, setB_eq, setO_un, setO_dat, setO_lst, setO_fn, setV_newL, setV_newD, setV_fn, setV_dat, setV_slot, setDs_nil, setDs_cons, setTg_name, setTg_names, seqOf_list, seqOf_tuple, tupOf_tuple, lstOf_lst, zipS_list, zipS_tuple, ownL_eq, ownB_lst, ownB_io, ofOutIo_ok, oioB_io, oioB_lst, retV_dat, retV_newL, retV_slot, rtB_lst, ownOk_nil, ownOk_cons, ownF_un, ownF_dat, wipeB_nil, wipeB_cons, backB_nil, backB_cons, getD_some', and_tt, v_lenS, v_ixS, seqOf_sq, gdU_true, retO_some, end_ret, end_next, end_exc, ioS_io, ioS_dat, ioS_fn, ioS_exc, ioS_scr, ioOf_io, ioOf_dat, ioOf_fn, ioOf_exc, ioOf_scr, isIo_io, isIo_dat, isIo_fn, isIo_exc, isIo_scr, beq_self_eq_true, gdO_true, v_add, v_addL, v_addT, v_sub, v_mul, v_mulL, v_mulT, v_fdiv, v_mod, v_pow, v_lt, v_le, v_gt, v_ge, v_eq, v_ne, v_ixL, v_ixT, v_lenL, v_lenT, v_tupL, v_tupT, v_lstL, v_lstT, v_sum, v_sumT, v_all, v_any, v_neg, v_isN, v_notN, v_isT, v_notT, v_max, v_min, map_some', plain_one, isTys_one, List.getElem?_cons_zero, List.getElem?_cons_succ, List.set_cons_zero, List.set_cons_succ, List.cons_append, List.nil_append, List.map_cons, List.map_nil, arB, e_slcB, e_inRng, e_callV, e_callS, fnB_fn, i_wip, s_wipe, s_try, try_ret, try_exc, outR_ok, s_while, v_repr, v_revL, v_revT, v_intB, v_isF, v_notF, v_nil, cutT, cutL, cutN, cutS, cutD_list, List.replicate_succ, List.replicate_zero, List.map_map, all_true]
      rw [show (xs.map ((fun _ => PyData.bool true) ∘ fun x => PyData.tuple [x, x])) = xs.map fun _ => .bool true from rfl]
      simp only [e_var, e_cst, e_gfn, e_op2, e_fn1, e_fn2, e_isi, e_and, e_or, e_not, e_ite, e_chain, e_lst, e_tup, e_emp, e_nil, e_cons, e_slcL, e_slcU, e_call, e_callIo, e_comp, e_compIf, i_of, i_rng1, i_rng2, i_enum, i_zip, s_nil, s_cons, s_set, s_unp, s_par, s_drop, s_ret, s_ite, s_for, s_raise, s_app, s_sti, t_C, t_If, t_F, look_dat, look_lst, look_dct, look_io, look_fn, look_exc, look_scr, ioCall_lst, ioCall_io, stB_lst, stB_io, seq_next, seq_ret, seq_exc, R.bind_ok, R.bind_exc, oR_some, oO_some, noX_ok, gd_true, br_true, br_false, tru_bool, intOf_int, ofO_some, ofS_some, ofOut_ok, ofOut_exc, op2_dat, op2_newL, op2_slot, opd_some, fn1_dat, fn1_newL, fn1_slot, fnd_some, fn1_scr, op2_scr', fn2_dat, peek_dat', peek_newL, peek_slot, pkB_lst, pkB_io, isi_dat, frz_dat, frz_newL, frz_newD, frz_slot, fzB_lst, frzs_nil, frzs_cons, args_nil, args_fn, args_scr, args_dat, args_newL, args_newD, args_slot, setB_eq, setO_un, setO_dat, setO_lst, setO_fn, setV_newL, setV_newD, setV_fn, setV_dat, setV_slot, setDs_nil, setDs_cons, setTg_name, setTg_names, seqOf_list, seqOf_tuple, tupOf_tuple, lstOf_lst, zipS_list, zipS_tuple, ownL_eq, ownB_lst, ownB_io, ofOutIo_ok, oioB_io, oioB_lst, retV_dat, retV_newL, retV_slot, rtB_lst, ownOk_nil, ownOk_cons, ownF_un, ownF_dat, wipeB_nil, wipeB_cons, backB_nil, backB_cons, getD_some', and_tt, v_lenS, v_ixS, seqOf_sq, gdU_true, retO_some, end_ret, end_next, end_exc, ioS_io, ioS_dat, ioS_fn, ioS_exc, ioS_scr, ioOf_io, ioOf_dat, ioOf_fn, ioOf_exc, ioOf_scr, isIo_io, isIo_dat, isIo_fn, isIo_exc, isIo_scr, beq_self_eq_true, gdO_true, v_add, v_addL, v_addT, v_sub, v_mul, v_mulL, v_mulT, v_fdiv, v_mod, v_pow, v_lt, v_le, v_gt, v_ge, v_eq, v_ne, v_ixL, v_ixT, v_lenL, v_lenT, v_tupL, v_tupT, v_lstL, v_lstT, v_sum, v_sumT, v_all, v_any, v_neg, v_isN, v_notN, v_isT, v_notT, v_max, v_min, map_some', plain_one, isTys_one, List.getElem?_cons_zero, List.getElem?_cons_succ, List.set_cons_zero, List.set_cons_succ, List.cons_append, List.nil_append, List.map_cons, List.map_nil, arB, e_slcB, e_inRng, e_callV, e_callS, fnB_fn, i_wip, s_wipe, s_try, try_ret, try_exc, outR_ok, s_while, v_repr, v_revL, v_revT, v_intB, v_isF, v_notF, v_nil, cutT, cutL, cutN, cutS, cutD_list, List.replicate_succ, List.replicate_zero, all_true]
    | tuple xs =>
      refine spec_of h.1 rfl fun K hK => ?_
      simp only [e_var, e_cst, e_gfn, e_op2, e_fn1, e_fn2, e_isi, e_and, e_or, e_not, e_ite, e_chain, e_lst, e_tup, e_emp, e_nil, e_cons, e_slcL, e_slcU, e_call, e_callIo, e_comp, e_compIf, i_of, i_rng1, i_rng2, i_enum, i_zip, s_nil, s_cons, s_set, s_unp, s_par, s_drop, s_ret, s_ite, s_for, s_raise, s_app, s_sti, t_C, t_If, t_F, look_dat, look_lst, look_dct, look_io, look_fn, look_exc, look_scr, ioCall_lst, ioCall_io, stB_lst, stB_io, seq_next, seq_ret, seq_exc, R.bind_ok, R.bind_exc, oR_some, oO_some, noX_ok, gd_true, br_true, br_false, tru_bool, intOf_int, ofO_some, ofS_some, ofOut_ok, ofOut_exc, op2_dat, op2_newL, op2_slot, opd_some, fn1_dat, fn1_newL, fn1_slot, fnd_some, fn1_scr, op2_scr', fn2_dat, peek_dat', peek_newL, peek_slot, pkB_lst, pkB_io, isi_dat, frz_dat, frz_newL, frz_newD, frz_slot, fzB_lst, frzs_nil, frzs_cons, args_nil, args_fn, args_scr, args_dat, args_newL, args_newD, args_slot, setB_eq, setO_un, setO_dat, setO_lst, setO_fn, setV_newL, setV_newD, setV_fn, setV_dat, setV_slot, setDs_nil, setDs_cons, setTg_name, setTg_names, seqOf_list, seqOf_tuple, tupOf_tuple, lstOf_lst, zipS_list, zipS_tuple, ownL_eq, ownB_lst, ownB_io, ofOutIo_ok, oioB_io, oioB_lst, retV_dat, retV_newL, retV_slot, rtB_lst, ownOk_nil, ownOk_cons, ownF_un, ownF_dat, wipeB_nil, wipeB_cons, backB_nil, backB_cons, getD_some', and_tt, v_lenS, v_ixS, seqOf_sq, gdU_true, retO_some, end_ret, end_next, end_exc, ioS_io, ioS_dat, ioS_fn, ioS_exc, ioS_scr, ioOf_io, ioOf_dat, ioOf_fn, ioOf_exc, ioOf_scr, isIo_io, isIo_dat, isIo_fn, isIo_exc, isIo_scr, beq_self_eq_true, gdO_true, v_add, v_addL, v_addT, v_sub, v_mul, v_mulL, v_mulT, v_fdiv, v_mod, v_pow, v_lt, v_le, v_gt, v_ge, v_eq, v_ne, v_ixL, v_ixT, v_lenL, v_lenT, v_tupL, v_tupT, v_lstL, v_lstT, v_sum, v_sumT, v_all, v_any, v_neg, v_isN, v_notN, v_isT, v_notT, v_max, v_min, map_some', plain_one, isTys_one, List.getElem?_cons_zero, List.getElem?_cons_succ, List.set_cons_zero, List.set_cons_succ, List.cons_append, List.nil_append, List.map_cons, List.map_nil, arB, e_slcB, e_inRng, e_callV, e_callS, fnB_fn, i_wip, s_wipe, s_try, try_ret, try_exc, outR_ok, s_while, v_repr, v_revL, v_revT, v_intB, v_isF, v_notF, v_nil, cutT, cutL, cutN, cutS, cutD_list, List.replicate_succ, List.replicate_zero, c__law_same, plainTy, isTy, isTys, List.any_cons, List.any_nil, List.all_cons, List.all_nil, Bool.or_self, Bool.or_true, Bool.true_or, Bool.or_false, Bool.and_self, fit_bool, eqv_bool, fit_int, eqv_int, decide_true, Bool.not_true, zip_self]
      generalize hL : loopC _ _ _ _ = L
      have := comp_eq hL (fun _ => .bool true) fun x hx => by
        obtain ⟨y, hy, rfl⟩ := List.mem_map.mp hx
        have h1 := ih y (List.all_eq_true.mp hd y hy) K (by omega)
        simp only [e_var, e_cst, e_gfn, e_op2, e_fn1, e_fn2, e_isi, e_and, e_or, e_not, e_ite, e_chain, e_lst, e_tup, e_emp, e_nil, e_cons, e_slcL, e_slcU, e_call, e_callIo, e_comp, e_compIf, i_of, i_rng1, i_rng2, i_enum, i_zip, s_nil, s_cons, s_set, s_unp, s_par, s_drop, s_ret, s_ite, s_for, s_raise, s_app, s_sti, t_C, t_If, t_F, look_dat, look_lst, look_dct, look_io, look_fn, look_exc, look_scr, ioCall_lst, ioCall_io, stB_lst, stB_io, seq_next, seq_ret, seq_exc, R.bind_ok, R.bind_exc, oR_some, oO_some, noX_ok, gd_true, br_true, br_false, tru_bool, intOf_int, ofO_some, ofS_some, ofOut_ok, ofOut_exc, op2_dat, op2_newL, op2_slot, opd_some, fn1_dat, fn1_newL, fn1_slot, fnd_some, fn1_scr, op2_scr', fn2_dat, peek_dat', peek_newL, peek_slot, pkB_lst, pkB_io, isi_dat, frz_dat, frz_newL, frz_newD, frz_slot, fzB_lst, frzs_nil, frzs_cons, args_nil, args_fn, args_scr, args_dat, args_newL, args_newD, args_slot, setB_eq, setO_un, setO_dat, setO_lst, setO_fn, setV_newL, setV_newD, setV_fn, setV_dat, setV_slot, setDs_nil, setDs_cons, setTg_name, setTg_names, seqOf_list, seqOf_tuple, tupOf_tuple, lstOf_lst, zipS_list, zipS_tuple, ownL_eq, ownB_lst, ownB_io, ofOutIo_ok, oioB_io, oioB_lst, retV_dat, retV_newL, retV_slot, rtB_lst, ownOk_nil, ownOk_cons, ownF_un, ownF_dat, wipeB_nil, wipeB_cons, backB_nil, backB_cons, getD_some', and_tt, v_lenS, v_ixS, seqOf_sq, gdU_true, retO_some, end_ret, end_next, end_exc, ioS_io, ioS_dat, ioS_fn, ioS_exc, ioS_scr, ioOf_io, ioOf_dat, ioOf_fn, ioOf_exc, ioOf_scr, isIo_io, isIo_dat, isIo_fn, isIo_exc, isIo_scr, beq_self_eq_true, gdO_true, v_add, v_addL, v_addT, v_sub, v_mul, v_mulL, v_mulT, v_fdiv, v_mod, v_pow, v_lt, v_le, v_gt, v_ge, v_eq, v_ne, v_ixL, v_ixT, v_lenL, v_lenT, v_tupL, v_tupT, v_lstL, v_lstT, v_sum, v_sumT, v_all, v_any, v_neg, v_isN, v_notN, v_isT, v_notT, v_max, v_min, map_some', plain_one, isTys_one, List.getElem?_cons_zero, List.getElem?_cons_succ, List.set_cons_zero, List.set_cons_succ, List.cons_append, List.nil_append, List.map_cons, List.map_nil, arB, e_slcB, e_inRng, e_callV, e_callS, fnB_fn, i_wip, s_wipe, s_try, try_ret, try_exc, outR_ok, s_while, v_repr, v_revL, v_revT, v_intB, v_isF, v_notF, v_nil, cutT, cutL, cutN, cutS, cutD_list, List.replicate_succ, List.replicate_zero, h1]
      subst this
      simp only [e_var, e_cst, e_gfn, e_op2, e_fn1, e_fn2, e_isi, e_and, e_or, e_not, e_ite, e_chain, e_lst, e_tup, e_emp, e_nil, e_cons, e_slcL, e_slcU, e_call, e_callIo, e_comp, e_compIf, i_of, i_rng1, i_rng2, i_enum, i_zip, s_nil, s_cons, s_set, s_unp, s_par, s_drop, s_ret, s_ite, s_for, s_raise, s_app, s_sti, t_C, t_If, t_F, look_dat, look_lst, look_dct, look_io, look_fn, look_exc, look_scr, ioCall_lst, ioCall_io, stB_lst, stB_io, seq_next, seq_ret, seq_exc, R.bind_ok, R.bind_exc, oR_some, oO_some, noX_ok, gd_true, br_true, br_false, tru_bool, intOf_int, ofO_some, ofS_some, ofOut_ok, ofOut_exc, op2_dat, op2_newL, op2_slot, opd_some, fn1_dat, fn1_newL, fn1_slot, fnd_some, fn1_scr, op2_scr', fn2_dat, peek_dat', peek_newL, peek_slot, pkB_lst, pkB_io, isi_dat, frz_dat, frz_newL, frz_newD, frz_slot, fzB_lst, frzs_nil, frzs_cons, args_nil, args_fn, args_scr, args_dat, args_newL, args_newD, args_slot, setB_eq, setO_un, setO_dat, setO_lst, setO_fn, setV_newL, setV_newD, setV_fn, setV_dat, setV_slot, setDs_nil, setDs_cons, setTg_name, setTg_names, seqOf_list, seqOf_tuple, tupOf_tuple, lstOf_lst, zipS_list, zipS_tuple, ownL_eq, ownB_lst, ownB_io, ofOutIo_ok, oioB_io, oioB_lst, retV_dat, retV_newL, retV_slot, rtB_lst, ownOk_nil, ownOk_cons, ownF_un, ownF_dat, wipeB_nil, wipeB_cons, backB_nil, backB_cons, getD_some', and_tt, v_lenS, v_ixS, seqOf_sq, gdU_true, retO_some, end_ret, end_next, end_exc, ioS_io, ioS_dat, ioS_fn, ioS_exc, ioS_scr, ioOf_io, ioOf_dat, ioOf_fn, ioOf_exc, ioOf_scr, isIo_io, isIo_dat, isIo_fn, isIo_exc, isIo_scr, beq_self_eq_true, gdO_true, v_add, v_addL, v_addT, v_sub, v_mul, v_mulL, v_mulT, v_fdiv, v_mod, v_pow, v_lt, v_le, v_gt, v_ge, v_eq, v_ne, v_ixL, v_ixT, v_lenL, v_lenT, v_tupL, v_tupT, v_lstL, v_lstT, v_sum, v_sumT, v_all, v_any, v_neg, v_isN, v_notN, v_isT, v_notT, v_max, v_min, map_some', plain_one, isTys_one, List.getElem?_cons_zero, List.getElem?_cons_succ, List.set_cons_zero, List.set_cons_succ, List.cons_append, List.nil_append, List.map_cons, List.map_nil, arB, e_slcB, e_inRng, e_callV, e_callS, fnB_fn, i_wip, s_wipe, s_try, try_ret, try_exc, outR_ok, s_while, v_repr, v_revL, v_revT, v_intB, v_isF, v_notF, v_nil, cutT, cutL, cutN, cutS, cutD_list, List.replicate_succ, List.replicate_zero, List.map_map, all_true]
      rw [show (xs.map ((fun _ => PyData.bool true) ∘ fun x => PyData.tuple [x, x])) = xs.map fun _ => .bool true from rfl]
      simp only [e_var, e_cst, e_gfn, e_op2, e_fn1, e_fn2, e_isi, e_and, e_or, e_not, e_ite, e_chain, e_lst, e_tup, e_emp, e_nil, e_cons, e_slcL, e_slcU, e_call, e_callIo, e_comp, e_compIf, i_of, i_rng1, i_rng2, i_enum, i_zip, s_nil, s_cons, s_set, s_unp, s_par, s_drop, s_ret, s_ite, s_for, s_raise, s_app, s_sti, t_C, t_If, t_F, look_dat, look_lst, look_dct, look_io, look_fn, look_exc, look_scr, ioCall_lst, ioCall_io, stB_lst, stB_io, seq_next, seq_ret, seq_exc, R.bind_ok, R.bind_exc, oR_some, oO_some, noX_ok, gd_true, br_true, br_false, tru_bool, intOf_int, ofO_some, ofS_some, ofOut_ok, ofOut_exc, op2_dat, op2_newL, op2_slot, opd_some, fn1_dat, fn1_newL, fn1_slot, fnd_some, fn1_scr, op2_scr', fn2_dat, peek_dat', peek_newL, peek_slot, pkB_lst, pkB_io, isi_dat, frz_dat, frz_newL, frz_newD, frz_slot, fzB_lst, frzs_nil, frzs_cons, args_nil, args_fn, args_scr, args_dat, args_newL, args_newD, args_slot, setB_eq, setO_un, setO_dat, setO_lst, setO_fn, setV_newL, setV_newD, setV_fn, setV_dat, setV_slot, setDs_nil, setDs_cons, setTg_name, setTg_names, seqOf_list, seqOf_tuple, tupOf_tuple, lstOf_lst, zipS_list, zipS_tuple, ownL_eq, ownB_lst, ownB_io, ofOutIo_ok, oioB_io, oioB_lst, retV_dat, retV_newL, retV_slot, rtB_lst, ownOk_nil, ownOk_cons, ownF_un, ownF_dat, wipeB_nil, wipeB_cons, backB_nil, backB_cons, getD_some', and_tt, v_lenS, v_ixS, seqOf_sq, gdU_true, retO_some, end_ret, end_next, end_exc, ioS_io, ioS_dat, ioS_fn, ioS_exc, ioS_scr, ioOf_io, ioOf_dat, ioOf_fn, ioOf_exc, ioOf_scr, isIo_io, isIo_dat, isIo_fn, isIo_exc, isIo_scr, beq_self_eq_true, gdO_true, v_add, v_addL, v_addT, v_sub, v_mul, v_mulL, v_mulT, v_fdiv, v_mod, v_pow, v_lt, v_le, v_gt, v_ge, v_eq, v_ne, v_ixL, v_ixT, v_lenL, v_lenT, v_tupL, v_tupT, v_lstL, v_lstT, v_sum, v_sumT, v_all, v_any, v_neg, v_isN, v_notN, v_isT, v_notT, v_max, v_min, map_some', plain_one, isTys_one, List.getElem?_cons_zero, List.getElem?_cons_succ, List.set_cons_zero, List.set_cons_succ, List.cons_append, List.nil_append, List.map_cons, List.map_nil, arB, e_slcB, e_inRng, e_callV, e_callS, fnB_fn, i_wip, s_wipe, s_try, try_ret, try_exc, outR_ok, s_while, v_repr, v_revL, v_revT, v_intB, v_isF, v_notF, v_nil, cutT, cutL, cutN, cutS, cutD_list, List.replicate_succ, List.replicate_zero, all_true]
    | int i => exact (ih (.int i) (fit_int _ _)).mono (by omega)
    | none => exact (ih .none (fit_none _)).mono (by omega)
    | bool b => exact (ih (.bool b) (fit_bool _ _)).mono (by omega)
    | str x => exact (ih (.str x) (fit_str _ _)).mono (by omega)
end
end Fc

/-! what may be shown; half rows -/
namespace Fc
open PySem
/-- may be shown: at most n deep, at most B long -/
def Sh (n B : Nat) (d : D) : Prop := shw n d = true ∧ siz d ≤ B
mutual
theorem shw_mono : ∀ {n m : Nat} (d : D), n ≤ m → shw n d = true → shw m d = true
  | _, m, .none, _, _ => by cases m <;> rfl
  | _, m, .bool _, _, _ => by cases m <;> rfl
  | n, m, .int i, _, h => by unfold shw at h ⊢; exact h
  | _, m, .str _, _, _ => by cases m <;> rfl
  | n, m, .dict _, _, h => by unfold shw at h ⊢; exact h
  | n + 1, m + 1, .list xs, h, g => by
    unfold shw at g ⊢
    exact shw_monoAll xs (by omega) g
  | n + 1, m + 1, .tuple xs, h, g => by
    unfold shw at g ⊢
    exact shw_monoAll xs (by omega) g
  | 0, _, .list _, _, h => by cases h
  | 0, _, .tuple _, _, h => by cases h
  | n + 1, 0, .list _, h, _ => by omega
  | n + 1, 0, .tuple _, h, _ => by omega
theorem shw_monoAll : ∀ {n m : Nat} (ds : List D), n ≤ m → ds.all (shw n) = true → ds.all (shw m) = true
  | _, _, [], _, _ => rfl
  | n, m, d :: ds, h, g => by
    rw [List.all_cons, Bool.and_eq_true] at g ⊢
    exact ⟨shw_mono d h g.1, shw_monoAll ds h g.2⟩
end
theorem Sh.mono {n m B C : Nat} {d : D} (h : Sh n B d) (h1 : n ≤ m) (h2 : B ≤ C) : Sh m C d := ⟨shw_mono d h1 h.1, Nat.le_trans h.2 h2⟩
theorem sizA_le {B : Nat} : ∀ (xs : List D), (∀ x ∈ xs, siz x ≤ B) → sizA xs ≤ xs.length * (B + 2)
  | [], _ => Nat.zero_le _
  | x :: xs, h => by
    have h1 := h x List.mem_cons_self
    have h2 := sizA_le xs fun y hy => h y (List.mem_cons_of_mem _ hy)
    unfold sizA
    rw [List.length_cons, Nat.succ_mul]
    omega
theorem sh_all {n B : Nat} {xs : List D} (h : ∀ x ∈ xs, Sh n B x) : xs.all (shw n) = true ∧ sizA xs ≤ xs.length * (B + 2) := ⟨List.all_eq_true.mpr fun x hx => (h x hx).1, sizA_le xs fun x hx => (h x hx).2⟩
theorem sh_tup {n B L : Nat} {xs : List D} (h : ∀ x ∈ xs, Sh n B x) (hl : xs.length ≤ L) : Sh (n + 1) (3 + L * (B + 2)) (.tuple xs) := by
  obtain ⟨h1, h2⟩ := sh_all h
  have h3 := Nat.mul_le_mul_right (B + 2) hl
  exact ⟨h1, by unfold siz; omega⟩
theorem sh_lst {n B L : Nat} {xs : List D} (h : ∀ x ∈ xs, Sh n B x) (hl : xs.length ≤ L) : Sh (n + 1) (3 + L * (B + 2)) (.list xs) := by
  obtain ⟨h1, h2⟩ := sh_all h
  have h3 := Nat.mul_le_mul_right (B + 2) hl
  exact ⟨h1, by unfold siz; omega⟩
theorem log_lt {n : Nat} {b : Nat} (h : n < 2 ^ b) (hb : 0 < b) : n.log2 < b := by
  by_cases z : n = 0
  · subst z; simpa using hb
  · exact (Nat.log2_lt z).mpr h
theorem sh_int {i : Int} {b : Nat} (h : i.natAbs < 2 ^ b) (hb : b ≤ 1920) : Sh 0 1930 (.int i) := by
  refine ⟨?_, by unfold siz; split <;> decide⟩
  show decide (i.natAbs.log2 < 1920) = true
  exact decide_eq_true (log_lt (Nat.lt_of_lt_of_le h (Nat.pow_le_pow_right (by decide) hb)) (by decide))
theorem sh_tupI {ns : List Int} {b : Nat} (hb : Bd b ns) (h : b ≤ 1920) (hl : ns.length ≤ 60) : Sh 1 120000 (tupI ns) :=
  (sh_tup (B := 1930) (L := 60) (fun x hx => by
    obtain ⟨i, hi, rfl⟩ := List.mem_map.mp hx
    exact sh_int (hb i hi) h) (by rw [List.length_map]; exact hl)).mono (Nat.le_refl _) (by decide)
theorem sh_ok {n B : Nat} {d : D} (h : Sh n B d) (hn : n ≤ 8) (hB : B ≤ 16000000) : showOk d = true := by
  unfold showOk
  rw [shw_mono d hn h.1, decide_eq_true (Nat.le_trans h.2 hB)]; rfl
/-- the half row's beginning -/
theorem half_take {w : Nat} {ns : List Int} (hl : ns.length = w / 2 + 1) : (bkL (evL w (trL (w : Nat) ns))).take ns.length = ns := by
  have len : (bkL (evL w (trL (w : Nat) ns))).length = w + 1 := by rw [bkL_len, evL_len]
  refine ext_gD (by rw [List.length_take, len]; omega) fun k hk => ?_
  rw [List.length_take, len] at hk
  have hkn : k < ns.length := by omega
  have e1 : gD ((bkL (evL w (trL (w : Nat) ns))).take ns.length) k = gD (bkL (evL w (trL (w : Nat) ns))) k := by
    unfold gD List.getD
    rw [List.getElem?_take, if_pos hkn]
  rw [e1, bkL_T, gD_map (by rw [evL_len]; omega), evL_len, T_sum _ _ _ _ (by omega)]
  have e2 : ∀ i, i < k + 1 → tm 1 w (gD (evL w (trL (w : Nat) ns))) k i = tm 1 w (T (-1) (w + 1) (gD ns)) k i := fun i hi => by
    unfold tm
    congr 2
    unfold evL
    rw [gD_map (by omega), Nat.min_eq_left (by omega)]
    show gD (trL (w : Nat) ns) i = _
    unfold trL
    rw [gD_map (by omega)]
    exact tr_T (by omega)
  rw [sumR_congr e2, ← T_sum _ _ _ _ (by omega)]
  have := T_inv (-1) (gD ns) (n := w + 1) (k := k) (by omega)
  rw [show (- -1 : Int) = 1 by decide] at this
  exact this
theorem evL_palin {w : Nat} {f : List Int} : (evL w f).reverse = evL w f := by
  refine ext_gD (by simp) fun k hk => ?_
  rw [List.length_reverse, evL_len] at hk
  have : gD (evL w f).reverse k = gD (evL w f) (w - k) := by
    unfold gD List.getD
    rw [List.getElem?_reverse (by rw [evL_len]; omega), evL_len]
    congr 2
  rw [this]
  unfold evL
  rw [gD_map (by omega), gD_map (by omega)]
  congr 1
  omega
theorem turned_even {w : Nat} {f : List Int} : trL (w : Nat) (bkL (evL w f)) = evL w f := by
  have := turned_back' (evL w f)
  rw [evL_len] at this
  exact this
end Fc

/-! rows drawn by the laws k11, k12, and bent ones -/
namespace Fc
open PySem
def c_rowA : Ss :=
  (.cons (.set 1 (.callIo 83 0 (.cons (.cst (.int 4)) .nil)))
  (.cons (.set 2 (.callIo 83 0 (.cons (.cst (.int 12)) .nil)))
  (.cons (.set 3 (.op2 .ix (.lst (.cons (.cst (.int 4)) (.cons (.cst (.int 1000)) (.cons (.op2 .pow (.cst (.int 10)) (.cst (.int 30))) (.cons (.op2 .pow (.cst (.int 10)) (.cst (.int 50))) .nil))))) (.callIo 83 0 (.cons (.cst (.int 4)) .nil))))
  (.cons (.par 4 5 (.callIo 83 0 (.cons (.op2 .add (.var 2) (.cst (.int 1))) .nil)) (.op2 .sub (.op2 .mul (.cst (.int 2)) (.callIo 83 0 (.cons (.cst (.int 2)) .nil))) (.cst (.int 1))))
  (.cons (.set 6 (.fn1 .tuple (.comp (.op2 .sub (.callIo 83 0 (.cons (.op2 .add (.op2 .mul (.cst (.int 2)) (.var 3)) (.cst (.int 1))) .nil)) (.var 3)) [7] (.name 7) (.rng1 (.op2 .add (.var 2) (.cst (.int 1)))))))
  (.cons (.ite_ (.op2 .eq (.var 1) (.cst (.int 0)))
  (.cons (.ret (.var 6))
  .nil)
  .nil)
  (.cons (.set 6 (.call 90 (.cons (.comp (.op2 .ix (.var 6) (.fn2 .min (.var 7) (.op2 .sub (.var 2) (.var 7)))) [7] (.name 7) (.rng1 (.op2 .add (.var 2) (.cst (.int 1))))) (.cons (.cst (.int 1)) .nil))))
  (.cons (.ite_ (.op2 .eq (.var 1) (.cst (.int 1)))
  (.cons (.set 6 (.op2 .add (.op2 .add (.slcU (.var 6) (.var 4)) (.tup (.cons (.op2 .add (.op2 .ix (.var 6) (.var 4)) (.var 5)) .nil))) (.slcL (.var 6) (.op2 .add (.var 4) (.cst (.int 1))))))
  .nil)
  .nil)
  (.cons (.ret (.var 6))
  .nil)))))))))
def c_isrowA : Ss :=
  (.cons (.ite_ (.or_ (.not_ (.isi (.var 0) [.tuple])) (.inRng true (.fn1 .len (.var 0)) (.cst (.int 1)) (.cst (.int 13))))
  (.cons (.ret (.cst (.bool false)))
  .nil)
  .nil)
  (.cons (.ret (.fn1 .nil_ (.compIf (.var 1) [1] (.name 1) (.of (.var 0)) (.not_ (.call 92 (.cons (.var 1) .nil))))))
  .nil))
def c_toldA : Ss :=
  (.cons (.set 2 (.fn1 .repr (.lst (.cons (.var 0) (.cons (.var 1) .nil)))))
  (.cons (.set 3 (.call 88 (.cons (.var 0) (.cons (.var 1) .nil))))
  (.cons (.ret (.ite_ (.op2 .eq (.fn1 .repr (.lst (.cons (.var 0) (.cons (.var 1) .nil)))) (.var 2)) (.var 3) (.cst (.str "changed"))))
  .nil)))
def putR (r : List Int) (a : Nat) (m : Int) : List Int := r.take a ++ [gD r a + m] ++ r.drop (a + 1)
theorem putR_len {r : List Int} {a : Nat} {m : Int} (h : a < r.length) : (putR r a m).length = r.length := by
  unfold putR
  rw [List.length_append, List.length_append, List.length_take, List.length_drop, List.length_singleton]
  omega
theorem putR_bd {r : List Int} {a b : Nat} {m : Int} (hb : Bd b r) (hm : m.natAbs ≤ 1) : Bd (b + 1) (putR r a m) := by
  intro n hn
  have e : 2 ^ (b + 1) = 2 * 2 ^ b := by rw [Nat.pow_succ, Nat.mul_comm]
  have p := Nat.two_pow_pos b
  unfold putR at hn
  rcases List.mem_append.mp hn with h | h
  · rcases List.mem_append.mp h with h | h
    · have := hb n (List.mem_of_mem_take h); omega
    · rw [List.mem_singleton.mp h]
      have := bd_getD (i := a) hb
      show (r.getD a 0 + m).natAbs < _
      omega
  · have := hb n (List.mem_of_mem_drop h); omega
def evK (w : Nat) (f : List Int) : D → D
  | .int k => .int (gD f (min k.toNat (w - k.toNat)))
  | _ => .none
theorem evK_map (w : Nat) (f : List Int) : (iotaI 0 (w + 1)).map (evK w f) = (evL w f).map .int := by
  unfold evL
  rw [List.map_map]
  exact iota_map fun i hi => by
    show PyData.int (gD f (min (0 + (i : Int)).toNat (w - (0 + (i : Int)).toNat))) = _
    rw [Int.zero_add, Int.toNat_natCast]; rfl
theorem md2 (p f : Int) (hf : 0 < f) : 0 ≤ p % f ∧ p % f < f := ⟨Int.emod_nonneg _ (by omega), Int.emod_lt_of_pos _ hf⟩
section
variable {P : Nat → Option Fd}
theorem q_take (hT : Rq__law_take P) {K : Nat} (hK : 1 ≤ K) (p f : Int) (b : Nat) (h1 : 0 < f) (h2 : f.natAbs < 2 ^ b) (h3 : b ≤ 9000) : dFun P K 83 [.io [.int p], .dat (.int f)] = .ok (.dat (.int (p % f))) [.int (p / f)] := p_take hT p f h1 (divOk_of3 h1 h2 h3) K hK
theorem p_rowA (hT : Rq__law_take P) (hA : P 90 = some ⟨2, 6, c_turnedA⟩) {nW : Nat} (hP : P nW = some ⟨1, 8, c_rowA⟩) (p : Int) {K : Nat} (hK : 1 ≤ K) :
    ∃ (r : List Int) (q : Int), dFun P (K + 1) nW [.io [.int p]] = .ok (.dat (tupI r)) [.int q] ∧ RowOk r ∧ Bd 250 r := by
  rw [fun_un hP rfl]
  have tk := q_take hT hK
  have t4 := fun p => tk p 4 5 (by decide) (by decide) (by decide)
  have t12 := fun p => tk p 12 5 (by decide) (by decide) (by decide)
  have t2 := fun p => tk p 2 5 (by decide) (by decide) (by decide)
  obtain ⟨w, hw, hw2⟩ : ∃ w : Nat, p / 4 % 12 = (w : Int) ∧ w ≤ 11 := ⟨(p / 4 % 12).toNat, by have := md2 (p / 4) 12 (by decide); omega, by have := md2 (p / 4) 12 (by decide); omega⟩
  have pk30 : powOk 10 30 = true := by decide +kernel
  have pk50 : powOk 10 50 = true := by decide +kernel
  obtain ⟨f0, hf0, ef⟩ := atI_mem (xs := [PyData.int 4, .int 1000, .int (10 ^ (30 : Int).toNat), .int (10 ^ (50 : Int).toNat)]) (md2 (p / 4 / 12) 4 (by decide)).1 (md2 (p / 4 / 12) 4 (by decide)).2
  obtain ⟨f, rfl, f1, f2⟩ : ∃ f : Int, f0 = .int f ∧ 0 < f ∧ f ≤ 10 ^ 50 := by
    simp only [List.mem_cons, List.not_mem_nil, or_false] at hf0
    rcases hf0 with rfl | rfl | rfl | rfl <;> exact ⟨_, rfl, by decide +kernel, by decide +kernel⟩
  have f2' : f.natAbs < 2 ^ 198 := Nat.lt_of_le_of_lt (show f.natAbs ≤ 10 ^ 50 by omega) (by decide +kernel)
  have e200 : (2 : Nat) ^ 200 = 4 * 2 ^ 198 := by decide +kernel
  have tf := fun p => tk p (2 * f + 1) 200 (by omega) (by omega) (by decide)
  have tw := fun p => tk p ((w : Int) + 1) 10 (by omega) (by omega) (by decide)
  have hmf : mulOk 2 f = true := mulOk_of2 2 198 (by decide) f2' (by decide)
  obtain ⟨a, ha, ha2⟩ : ∃ a : Nat, p / 4 / 12 / 4 % ((w : Int) + 1) = (a : Int) ∧ a < w + 1 := ⟨(p / 4 / 12 / 4 % ((w : Int) + 1)).toNat, by have := md2 (p / 4 / 12 / 4) ((w : Int) + 1) (by omega); omega, by have := md2 (p / 4 / 12 / 4) ((w : Int) + 1) (by omega); omega⟩
  generalize hq0 : p / 4 / 12 / 4 / ((w : Int) + 1) = q0
  have hm2 : mulOk 2 (q0 % 2) = true := mulOk_of2 2 20 (by decide) (by omega) (by decide)
  obtain ⟨m, hm, hm1⟩ : ∃ m : Int, 2 * (q0 % 2) - 1 = m ∧ m.natAbs ≤ 1 := ⟨_, rfl, by omega⟩
  have hr : rngOk ((w : Int) + 1) = true := rngOk_of' (by omega) (by omega)
  simp only [e_var, e_cst, e_gfn, e_op2, e_fn1, e_fn2, e_isi, e_and, e_or, e_not, e_ite, e_chain, e_lst, e_tup, e_emp, e_nil, e_cons, e_slcL, e_slcU, e_call, e_callIo, e_comp, e_compIf, i_of, i_rng1, i_rng2, i_enum, i_zip, s_nil, s_cons, s_set, s_unp, s_par, s_drop, s_ret, s_ite, s_for, s_raise, s_app, s_sti, t_C, t_If, t_F, look_dat, look_lst, look_dct, look_io, look_fn, look_exc, look_scr, ioCall_lst, ioCall_io, stB_lst, stB_io, seq_next, seq_ret, seq_exc, R.bind_ok, R.bind_exc, oR_some, oO_some, noX_ok, gd_true, br_true, br_false, tru_bool, intOf_int, ofO_some, ofS_some, ofOut_ok, ofOut_exc, op2_dat, op2_newL, op2_slot, opd_some, fn1_dat, fn1_newL, fn1_slot, fnd_some, fn1_scr, op2_scr', fn2_dat, peek_dat', peek_newL, peek_slot, pkB_lst, pkB_io, isi_dat, frz_dat, frz_newL, frz_newD, frz_slot, fzB_lst, frzs_nil, frzs_cons, args_nil, args_fn, args_scr, args_dat, args_newL, args_newD, args_slot, setB_eq, setO_un, setO_dat, setO_lst, setO_fn, setV_newL, setV_newD, setV_fn, setV_dat, setV_slot, setDs_nil, setDs_cons, setTg_name, setTg_names, seqOf_list, seqOf_tuple, tupOf_tuple, lstOf_lst, zipS_list, zipS_tuple, ownL_eq, ownB_lst, ownB_io, ofOutIo_ok, oioB_io, oioB_lst, retV_dat, retV_newL, retV_slot, rtB_lst, ownOk_nil, ownOk_cons, ownF_un, ownF_dat, wipeB_nil, wipeB_cons, backB_nil, backB_cons, getD_some', and_tt, v_lenS, v_ixS, seqOf_sq, gdU_true, retO_some, end_ret, end_next, end_exc, ioS_io, ioS_dat, ioS_fn, ioS_exc, ioS_scr, ioOf_io, ioOf_dat, ioOf_fn, ioOf_exc, ioOf_scr, isIo_io, isIo_dat, isIo_fn, isIo_exc, isIo_scr, beq_self_eq_true, gdO_true, v_add, v_addL, v_addT, v_sub, v_mul, v_mulL, v_mulT, v_fdiv, v_mod, v_pow, v_lt, v_le, v_gt, v_ge, v_eq, v_ne, v_ixL, v_ixT, v_lenL, v_lenT, v_tupL, v_tupT, v_lstL, v_lstT, v_sum, v_sumT, v_all, v_any, v_neg, v_isN, v_notN, v_isT, v_notT, v_max, v_min, map_some', plain_one, isTys_one, List.getElem?_cons_zero, List.getElem?_cons_succ, List.set_cons_zero, List.set_cons_succ, List.cons_append, List.nil_append, List.map_cons, List.map_nil, arB, e_slcB, e_inRng, e_callV, e_callS, fnB_fn, i_wip, s_wipe, s_try, try_ret, try_exc, outR_ok, s_while, v_repr, v_revL, v_revT, v_intB, v_isF, v_notF, v_nil, cutT, cutL, cutN, cutS, cutD_list, List.replicate_succ, List.replicate_zero, c_rowA, t4, t12, t2, hw, tw, pk30, pk50, ef, ha, hq0, hm2, hm, List.length_cons, List.length_nil, show lenOk (0 + 1 + 1 + 1 + 1) = true from rfl, hr, show ((w : Int) + 1).toNat = w + 1 by omega]
  generalize hM : loopC _ _ _ _ = M
  obtain ⟨ds, s', rfl, ms, q, rfl, hml, hmb, rfl⟩ := compS_eq hM (fun i acc st => ∃ (ms : List Int) (q : Int), acc = ms.map .int ∧ ms.length = i ∧ Bd 200 ms ∧ st = [.io [.int q], .dat (.int (p % 4)), .dat (.int (w : Nat)), .dat (.int f), .dat (.int (a : Nat)), .dat (.int m), .un, .un]) ⟨[], q0 / 2, rfl, rfl, fun _ h => absurd h List.not_mem_nil, rfl⟩ (fun i x acc st hx hq => by
      obtain ⟨ms, q, rfl, hml, hmb, rfl⟩ := hq
      obtain ⟨rfl, hlt⟩ := iota_get0 hx
      simp only [e_var, e_cst, e_gfn, e_op2, e_fn1, e_fn2, e_isi, e_and, e_or, e_not, e_ite, e_chain, e_lst, e_tup, e_emp, e_nil, e_cons, e_slcL, e_slcU, e_call, e_callIo, e_comp, e_compIf, i_of, i_rng1, i_rng2, i_enum, i_zip, s_nil, s_cons, s_set, s_unp, s_par, s_drop, s_ret, s_ite, s_for, s_raise, s_app, s_sti, t_C, t_If, t_F, look_dat, look_lst, look_dct, look_io, look_fn, look_exc, look_scr, ioCall_lst, ioCall_io, stB_lst, stB_io, seq_next, seq_ret, seq_exc, R.bind_ok, R.bind_exc, oR_some, oO_some, noX_ok, gd_true, br_true, br_false, tru_bool, intOf_int, ofO_some, ofS_some, ofOut_ok, ofOut_exc, op2_dat, op2_newL, op2_slot, opd_some, fn1_dat, fn1_newL, fn1_slot, fnd_some, fn1_scr, op2_scr', fn2_dat, peek_dat', peek_newL, peek_slot, pkB_lst, pkB_io, isi_dat, frz_dat, frz_newL, frz_newD, frz_slot, fzB_lst, frzs_nil, frzs_cons, args_nil, args_fn, args_scr, args_dat, args_newL, args_newD, args_slot, setB_eq, setO_un, setO_dat, setO_lst, setO_fn, setV_newL, setV_newD, setV_fn, setV_dat, setV_slot, setDs_nil, setDs_cons, setTg_name, setTg_names, seqOf_list, seqOf_tuple, tupOf_tuple, lstOf_lst, zipS_list, zipS_tuple, ownL_eq, ownB_lst, ownB_io, ofOutIo_ok, oioB_io, oioB_lst, retV_dat, retV_newL, retV_slot, rtB_lst, ownOk_nil, ownOk_cons, ownF_un, ownF_dat, wipeB_nil, wipeB_cons, backB_nil, backB_cons, getD_some', and_tt, v_lenS, v_ixS, seqOf_sq, gdU_true, retO_some, end_ret, end_next, end_exc, ioS_io, ioS_dat, ioS_fn, ioS_exc, ioS_scr, ioOf_io, ioOf_dat, ioOf_fn, ioOf_exc, ioOf_scr, isIo_io, isIo_dat, isIo_fn, isIo_exc, isIo_scr, beq_self_eq_true, gdO_true, v_add, v_addL, v_addT, v_sub, v_mul, v_mulL, v_mulT, v_fdiv, v_mod, v_pow, v_lt, v_le, v_gt, v_ge, v_eq, v_ne, v_ixL, v_ixT, v_lenL, v_lenT, v_tupL, v_tupT, v_lstL, v_lstT, v_sum, v_sumT, v_all, v_any, v_neg, v_isN, v_notN, v_isT, v_notT, v_max, v_min, map_some', plain_one, isTys_one, List.getElem?_cons_zero, List.getElem?_cons_succ, List.set_cons_zero, List.set_cons_succ, List.cons_append, List.nil_append, List.map_cons, List.map_nil, arB, e_slcB, e_inRng, e_callV, e_callS, fnB_fn, i_wip, s_wipe, s_try, try_ret, try_exc, outR_ok, s_while, v_repr, v_revL, v_revT, v_intB, v_isF, v_notF, v_nil, cutT, cutL, cutN, cutS, cutD_list, List.replicate_succ, List.replicate_zero, hmf, tf]
      refine ⟨_, _, rfl, ms ++ [q % (2 * f + 1) - f], q / (2 * f + 1), ?_, ?_, ?_, rfl⟩
      · rw [List.map_append]; rfl
      · rw [List.length_append, hml]; rfl
      · intro n hn
        rcases List.mem_append.mp hn with h | h
        · exact hmb n h
        · have h := List.mem_singleton.mp h
          subst h
          have g1 := md2 q (2 * f + 1) (by omega)
          omega)
  rw [iota_len] at hml
  simp only [e_var, e_cst, e_gfn, e_op2, e_fn1, e_fn2, e_isi, e_and, e_or, e_not, e_ite, e_chain, e_lst, e_tup, e_emp, e_nil, e_cons, e_slcL, e_slcU, e_call, e_callIo, e_comp, e_compIf, i_of, i_rng1, i_rng2, i_enum, i_zip, s_nil, s_cons, s_set, s_unp, s_par, s_drop, s_ret, s_ite, s_for, s_raise, s_app, s_sti, t_C, t_If, t_F, look_dat, look_lst, look_dct, look_io, look_fn, look_exc, look_scr, ioCall_lst, ioCall_io, stB_lst, stB_io, seq_next, seq_ret, seq_exc, R.bind_ok, R.bind_exc, oR_some, oO_some, noX_ok, gd_true, br_true, br_false, tru_bool, intOf_int, ofO_some, ofS_some, ofOut_ok, ofOut_exc, op2_dat, op2_newL, op2_slot, opd_some, fn1_dat, fn1_newL, fn1_slot, fnd_some, fn1_scr, op2_scr', fn2_dat, peek_dat', peek_newL, peek_slot, pkB_lst, pkB_io, isi_dat, frz_dat, frz_newL, frz_newD, frz_slot, fzB_lst, frzs_nil, frzs_cons, args_nil, args_fn, args_scr, args_dat, args_newL, args_newD, args_slot, setB_eq, setO_un, setO_dat, setO_lst, setO_fn, setV_newL, setV_newD, setV_fn, setV_dat, setV_slot, setDs_nil, setDs_cons, setTg_name, setTg_names, seqOf_list, seqOf_tuple, tupOf_tuple, lstOf_lst, zipS_list, zipS_tuple, ownL_eq, ownB_lst, ownB_io, ofOutIo_ok, oioB_io, oioB_lst, retV_dat, retV_newL, retV_slot, rtB_lst, ownOk_nil, ownOk_cons, ownF_un, ownF_dat, wipeB_nil, wipeB_cons, backB_nil, backB_cons, getD_some', and_tt, v_lenS, v_ixS, seqOf_sq, gdU_true, retO_some, end_ret, end_next, end_exc, ioS_io, ioS_dat, ioS_fn, ioS_exc, ioS_scr, ioOf_io, ioOf_dat, ioOf_fn, ioOf_exc, ioOf_scr, isIo_io, isIo_dat, isIo_fn, isIo_exc, isIo_scr, beq_self_eq_true, gdO_true, v_add, v_addL, v_addT, v_sub, v_mul, v_mulL, v_mulT, v_fdiv, v_mod, v_pow, v_lt, v_le, v_gt, v_ge, v_eq, v_ne, v_ixL, v_ixT, v_lenL, v_lenT, v_tupL, v_tupT, v_lstL, v_lstT, v_sum, v_sumT, v_all, v_any, v_neg, v_isN, v_notN, v_isT, v_notT, v_max, v_min, map_some', plain_one, isTys_one, List.getElem?_cons_zero, List.getElem?_cons_succ, List.set_cons_zero, List.set_cons_succ, List.cons_append, List.nil_append, List.map_cons, List.map_nil, arB, e_slcB, e_inRng, e_callV, e_callS, fnB_fn, i_wip, s_wipe, s_try, try_ret, try_exc, outR_ok, s_while, v_repr, v_revL, v_revT, v_intB, v_isF, v_notF, v_nil, cutT, cutL, cutN, cutS, cutD_list, List.replicate_succ, List.replicate_zero, v_eq, eqv_int, fit_int, Bool.and_self]
  by_cases w0 : p % 4 = 0
  · simp only [e_var, e_cst, e_gfn, e_op2, e_fn1, e_fn2, e_isi, e_and, e_or, e_not, e_ite, e_chain, e_lst, e_tup, e_emp, e_nil, e_cons, e_slcL, e_slcU, e_call, e_callIo, e_comp, e_compIf, i_of, i_rng1, i_rng2, i_enum, i_zip, s_nil, s_cons, s_set, s_unp, s_par, s_drop, s_ret, s_ite, s_for, s_raise, s_app, s_sti, t_C, t_If, t_F, look_dat, look_lst, look_dct, look_io, look_fn, look_exc, look_scr, ioCall_lst, ioCall_io, stB_lst, stB_io, seq_next, seq_ret, seq_exc, R.bind_ok, R.bind_exc, oR_some, oO_some, noX_ok, gd_true, br_true, br_false, tru_bool, intOf_int, ofO_some, ofS_some, ofOut_ok, ofOut_exc, op2_dat, op2_newL, op2_slot, opd_some, fn1_dat, fn1_newL, fn1_slot, fnd_some, fn1_scr, op2_scr', fn2_dat, peek_dat', peek_newL, peek_slot, pkB_lst, pkB_io, isi_dat, frz_dat, frz_newL, frz_newD, frz_slot, fzB_lst, frzs_nil, frzs_cons, args_nil, args_fn, args_scr, args_dat, args_newL, args_newD, args_slot, setB_eq, setO_un, setO_dat, setO_lst, setO_fn, setV_newL, setV_newD, setV_fn, setV_dat, setV_slot, setDs_nil, setDs_cons, setTg_name, setTg_names, seqOf_list, seqOf_tuple, tupOf_tuple, lstOf_lst, zipS_list, zipS_tuple, ownL_eq, ownB_lst, ownB_io, ofOutIo_ok, oioB_io, oioB_lst, retV_dat, retV_newL, retV_slot, rtB_lst, ownOk_nil, ownOk_cons, ownF_un, ownF_dat, wipeB_nil, wipeB_cons, backB_nil, backB_cons, getD_some', and_tt, v_lenS, v_ixS, seqOf_sq, gdU_true, retO_some, end_ret, end_next, end_exc, ioS_io, ioS_dat, ioS_fn, ioS_exc, ioS_scr, ioOf_io, ioOf_dat, ioOf_fn, ioOf_exc, ioOf_scr, isIo_io, isIo_dat, isIo_fn, isIo_exc, isIo_scr, beq_self_eq_true, gdO_true, v_add, v_addL, v_addT, v_sub, v_mul, v_mulL, v_mulT, v_fdiv, v_mod, v_pow, v_lt, v_le, v_gt, v_ge, v_eq, v_ne, v_ixL, v_ixT, v_lenL, v_lenT, v_tupL, v_tupT, v_lstL, v_lstT, v_sum, v_sumT, v_all, v_any, v_neg, v_isN, v_notN, v_isT, v_notT, v_max, v_min, map_some', plain_one, isTys_one, List.getElem?_cons_zero, List.getElem?_cons_succ, List.set_cons_zero, List.set_cons_succ, List.cons_append, List.nil_append, List.map_cons, List.map_nil, arB, e_slcB, e_inRng, e_callV, e_callS, fnB_fn, i_wip, s_wipe, s_try, try_ret, try_exc, outR_ok, s_while, v_repr, v_revL, v_revT, v_intB, v_isF, v_notF, v_nil, cutT, cutL, cutN, cutS, cutD_list, List.replicate_succ, List.replicate_zero, w0, decide_true]
    exact ⟨ms, q, rfl, ⟨by omega, by omega⟩, hmb.mono (by decide)⟩
  · simp only [e_var, e_cst, e_gfn, e_op2, e_fn1, e_fn2, e_isi, e_and, e_or, e_not, e_ite, e_chain, e_lst, e_tup, e_emp, e_nil, e_cons, e_slcL, e_slcU, e_call, e_callIo, e_comp, e_compIf, i_of, i_rng1, i_rng2, i_enum, i_zip, s_nil, s_cons, s_set, s_unp, s_par, s_drop, s_ret, s_ite, s_for, s_raise, s_app, s_sti, t_C, t_If, t_F, look_dat, look_lst, look_dct, look_io, look_fn, look_exc, look_scr, ioCall_lst, ioCall_io, stB_lst, stB_io, seq_next, seq_ret, seq_exc, R.bind_ok, R.bind_exc, oR_some, oO_some, noX_ok, gd_true, br_true, br_false, tru_bool, intOf_int, ofO_some, ofS_some, ofOut_ok, ofOut_exc, op2_dat, op2_newL, op2_slot, opd_some, fn1_dat, fn1_newL, fn1_slot, fnd_some, fn1_scr, op2_scr', fn2_dat, peek_dat', peek_newL, peek_slot, pkB_lst, pkB_io, isi_dat, frz_dat, frz_newL, frz_newD, frz_slot, fzB_lst, frzs_nil, frzs_cons, args_nil, args_fn, args_scr, args_dat, args_newL, args_newD, args_slot, setB_eq, setO_un, setO_dat, setO_lst, setO_fn, setV_newL, setV_newD, setV_fn, setV_dat, setV_slot, setDs_nil, setDs_cons, setTg_name, setTg_names, seqOf_list, seqOf_tuple, tupOf_tuple, lstOf_lst, zipS_list, zipS_tuple, ownL_eq, ownB_lst, ownB_io, ofOutIo_ok, oioB_io, oioB_lst, retV_dat, retV_newL, retV_slot, rtB_lst, ownOk_nil, ownOk_cons, ownF_un, ownF_dat, wipeB_nil, wipeB_cons, backB_nil, backB_cons, getD_some', and_tt, v_lenS, v_ixS, seqOf_sq, gdU_true, retO_some, end_ret, end_next, end_exc, ioS_io, ioS_dat, ioS_fn, ioS_exc, ioS_scr, ioOf_io, ioOf_dat, ioOf_fn, ioOf_exc, ioOf_scr, isIo_io, isIo_dat, isIo_fn, isIo_exc, isIo_scr, beq_self_eq_true, gdO_true, v_add, v_addL, v_addT, v_sub, v_mul, v_mulL, v_mulT, v_fdiv, v_mod, v_pow, v_lt, v_le, v_gt, v_ge, v_eq, v_ne, v_ixL, v_ixT, v_lenL, v_lenT, v_tupL, v_tupT, v_lstL, v_lstT, v_sum, v_sumT, v_all, v_any, v_neg, v_isN, v_notN, v_isT, v_notT, v_max, v_min, map_some', plain_one, isTys_one, List.getElem?_cons_zero, List.getElem?_cons_succ, List.set_cons_zero, List.set_cons_succ, List.cons_append, List.nil_append, List.map_cons, List.map_nil, arB, e_slcB, e_inRng, e_callV, e_callS, fnB_fn, i_wip, s_wipe, s_try, try_ret, try_exc, outR_ok, s_while, v_repr, v_revL, v_revT, v_intB, v_isF, v_notF, v_nil, cutT, cutL, cutN, cutS, cutD_list, List.replicate_succ, List.replicate_zero, w0, decide_false, hr, show ((w : Int) + 1).toNat = w + 1 by omega]
    generalize hN : loopC _ _ _ _ = N
    have := comp_eq hN (evK w ms) fun d hd => by
      obtain ⟨k, rfl, hk⟩ := iota_mem hd
      rw [Int.zero_add]
      have e1 : (if (w : Int) - (k : Int) < (k : Int) then (w : Int) - (k : Int) else (k : Int)) = ((min k (w - k) : Nat) : Int) := by
        split <;> omega
      have e2 : evK w ms (.int (k : Int)) = .int (ms.getD (min k (w - k)) 0) := rfl
      simp only [e_var, e_cst, e_gfn, e_op2, e_fn1, e_fn2, e_isi, e_and, e_or, e_not, e_ite, e_chain, e_lst, e_tup, e_emp, e_nil, e_cons, e_slcL, e_slcU, e_call, e_callIo, e_comp, e_compIf, i_of, i_rng1, i_rng2, i_enum, i_zip, s_nil, s_cons, s_set, s_unp, s_par, s_drop, s_ret, s_ite, s_for, s_raise, s_app, s_sti, t_C, t_If, t_F, look_dat, look_lst, look_dct, look_io, look_fn, look_exc, look_scr, ioCall_lst, ioCall_io, stB_lst, stB_io, seq_next, seq_ret, seq_exc, R.bind_ok, R.bind_exc, oR_some, oO_some, noX_ok, gd_true, br_true, br_false, tru_bool, intOf_int, ofO_some, ofS_some, ofOut_ok, ofOut_exc, op2_dat, op2_newL, op2_slot, opd_some, fn1_dat, fn1_newL, fn1_slot, fnd_some, fn1_scr, op2_scr', fn2_dat, peek_dat', peek_newL, peek_slot, pkB_lst, pkB_io, isi_dat, frz_dat, frz_newL, frz_newD, frz_slot, fzB_lst, frzs_nil, frzs_cons, args_nil, args_fn, args_scr, args_dat, args_newL, args_newD, args_slot, setB_eq, setO_un, setO_dat, setO_lst, setO_fn, setV_newL, setV_newD, setV_fn, setV_dat, setV_slot, setDs_nil, setDs_cons, setTg_name, setTg_names, seqOf_list, seqOf_tuple, tupOf_tuple, lstOf_lst, zipS_list, zipS_tuple, ownL_eq, ownB_lst, ownB_io, ofOutIo_ok, oioB_io, oioB_lst, retV_dat, retV_newL, retV_slot, rtB_lst, ownOk_nil, ownOk_cons, ownF_un, ownF_dat, wipeB_nil, wipeB_cons, backB_nil, backB_cons, getD_some', and_tt, v_lenS, v_ixS, seqOf_sq, gdU_true, retO_some, end_ret, end_next, end_exc, ioS_io, ioS_dat, ioS_fn, ioS_exc, ioS_scr, ioOf_io, ioOf_dat, ioOf_fn, ioOf_exc, ioOf_scr, isIo_io, isIo_dat, isIo_fn, isIo_exc, isIo_scr, beq_self_eq_true, gdO_true, v_add, v_addL, v_addT, v_sub, v_mul, v_mulL, v_mulT, v_fdiv, v_mod, v_pow, v_lt, v_le, v_gt, v_ge, v_eq, v_ne, v_ixL, v_ixT, v_lenL, v_lenT, v_tupL, v_tupT, v_lstL, v_lstT, v_sum, v_sumT, v_all, v_any, v_neg, v_isN, v_notN, v_isT, v_notT, v_max, v_min, map_some', plain_one, isTys_one, List.getElem?_cons_zero, List.getElem?_cons_succ, List.set_cons_zero, List.set_cons_succ, List.cons_append, List.nil_append, List.map_cons, List.map_nil, arB, e_slcB, e_inRng, e_callV, e_callS, fnB_fn, i_wip, s_wipe, s_try, try_ret, try_exc, outR_ok, s_while, v_repr, v_revL, v_revT, v_intB, v_isF, v_notF, v_nil, cutT, cutL, cutN, cutS, cutD_list, List.replicate_succ, List.replicate_zero, e1, atI_map' (show min k (w - k) < ms.length by omega), e2]
    subst this
    rw [evK_map]
    have ta := p_turnedA (q := false) (s := 1) (ns := evL w ms) hA (by decide) (by rw [evL_len]; omega) (bd_evL hmb) (by decide) K hK
    rw [sq_false] at ta
    have tl : (twL 1 (evL w ms)).length = w + 1 := by rw [twL_len, evL_len]
    have tb := bd_twL (s := 1) (ns := evL w ms) (by decide) (by rw [evL_len]; omega) (bd_evL hmb)
    generalize twL 1 (evL w ms) = r at *
    unfold tupI at ta
    simp only [e_var, e_cst, e_gfn, e_op2, e_fn1, e_fn2, e_isi, e_and, e_or, e_not, e_ite, e_chain, e_lst, e_tup, e_emp, e_nil, e_cons, e_slcL, e_slcU, e_call, e_callIo, e_comp, e_compIf, i_of, i_rng1, i_rng2, i_enum, i_zip, s_nil, s_cons, s_set, s_unp, s_par, s_drop, s_ret, s_ite, s_for, s_raise, s_app, s_sti, t_C, t_If, t_F, look_dat, look_lst, look_dct, look_io, look_fn, look_exc, look_scr, ioCall_lst, ioCall_io, stB_lst, stB_io, seq_next, seq_ret, seq_exc, R.bind_ok, R.bind_exc, oR_some, oO_some, noX_ok, gd_true, br_true, br_false, tru_bool, intOf_int, ofO_some, ofS_some, ofOut_ok, ofOut_exc, op2_dat, op2_newL, op2_slot, opd_some, fn1_dat, fn1_newL, fn1_slot, fnd_some, fn1_scr, op2_scr', fn2_dat, peek_dat', peek_newL, peek_slot, pkB_lst, pkB_io, isi_dat, frz_dat, frz_newL, frz_newD, frz_slot, fzB_lst, frzs_nil, frzs_cons, args_nil, args_fn, args_scr, args_dat, args_newL, args_newD, args_slot, setB_eq, setO_un, setO_dat, setO_lst, setO_fn, setV_newL, setV_newD, setV_fn, setV_dat, setV_slot, setDs_nil, setDs_cons, setTg_name, setTg_names, seqOf_list, seqOf_tuple, tupOf_tuple, lstOf_lst, zipS_list, zipS_tuple, ownL_eq, ownB_lst, ownB_io, ofOutIo_ok, oioB_io, oioB_lst, retV_dat, retV_newL, retV_slot, rtB_lst, ownOk_nil, ownOk_cons, ownF_un, ownF_dat, wipeB_nil, wipeB_cons, backB_nil, backB_cons, getD_some', and_tt, v_lenS, v_ixS, seqOf_sq, gdU_true, retO_some, end_ret, end_next, end_exc, ioS_io, ioS_dat, ioS_fn, ioS_exc, ioS_scr, ioOf_io, ioOf_dat, ioOf_fn, ioOf_exc, ioOf_scr, isIo_io, isIo_dat, isIo_fn, isIo_exc, isIo_scr, beq_self_eq_true, gdO_true, v_add, v_addL, v_addT, v_sub, v_mul, v_mulL, v_mulT, v_fdiv, v_mod, v_pow, v_lt, v_le, v_gt, v_ge, v_eq, v_ne, v_ixL, v_ixT, v_lenL, v_lenT, v_tupL, v_tupT, v_lstL, v_lstT, v_sum, v_sumT, v_all, v_any, v_neg, v_isN, v_notN, v_isT, v_notT, v_max, v_min, map_some', plain_one, isTys_one, List.getElem?_cons_zero, List.getElem?_cons_succ, List.set_cons_zero, List.set_cons_succ, List.cons_append, List.nil_append, List.map_cons, List.map_nil, arB, e_slcB, e_inRng, e_callV, e_callS, fnB_fn, i_wip, s_wipe, s_try, try_ret, try_exc, outR_ok, s_while, v_repr, v_revL, v_revT, v_intB, v_isF, v_notF, v_nil, cutT, cutL, cutN, cutS, cutD_list, List.replicate_succ, List.replicate_zero, ta, v_eq, eqv_int, fit_int, Bool.and_self]
    by_cases w1 : p % 4 = 1
    · have hd1 : (a : Int) + 1 = ((a + 1 : Nat) : Int) := by omega
      have tke : (r.map PyData.int).take a = (r.take a).map PyData.int := (List.map_take ..).symm
      have dre : (r.map PyData.int).drop (a + 1) = (r.drop (a + 1)).map PyData.int := (List.map_drop ..).symm
      simp only [e_var, e_cst, e_gfn, e_op2, e_fn1, e_fn2, e_isi, e_and, e_or, e_not, e_ite, e_chain, e_lst, e_tup, e_emp, e_nil, e_cons, e_slcL, e_slcU, e_call, e_callIo, e_comp, e_compIf, i_of, i_rng1, i_rng2, i_enum, i_zip, s_nil, s_cons, s_set, s_unp, s_par, s_drop, s_ret, s_ite, s_for, s_raise, s_app, s_sti, t_C, t_If, t_F, look_dat, look_lst, look_dct, look_io, look_fn, look_exc, look_scr, ioCall_lst, ioCall_io, stB_lst, stB_io, seq_next, seq_ret, seq_exc, R.bind_ok, R.bind_exc, oR_some, oO_some, noX_ok, gd_true, br_true, br_false, tru_bool, intOf_int, ofO_some, ofS_some, ofOut_ok, ofOut_exc, op2_dat, op2_newL, op2_slot, opd_some, fn1_dat, fn1_newL, fn1_slot, fnd_some, fn1_scr, op2_scr', fn2_dat, peek_dat', peek_newL, peek_slot, pkB_lst, pkB_io, isi_dat, frz_dat, frz_newL, frz_newD, frz_slot, fzB_lst, frzs_nil, frzs_cons, args_nil, args_fn, args_scr, args_dat, args_newL, args_newD, args_slot, setB_eq, setO_un, setO_dat, setO_lst, setO_fn, setV_newL, setV_newD, setV_fn, setV_dat, setV_slot, setDs_nil, setDs_cons, setTg_name, setTg_names, seqOf_list, seqOf_tuple, tupOf_tuple, lstOf_lst, zipS_list, zipS_tuple, ownL_eq, ownB_lst, ownB_io, ofOutIo_ok, oioB_io, oioB_lst, retV_dat, retV_newL, retV_slot, rtB_lst, ownOk_nil, ownOk_cons, ownF_un, ownF_dat, wipeB_nil, wipeB_cons, backB_nil, backB_cons, getD_some', and_tt, v_lenS, v_ixS, seqOf_sq, gdU_true, retO_some, end_ret, end_next, end_exc, ioS_io, ioS_dat, ioS_fn, ioS_exc, ioS_scr, ioOf_io, ioOf_dat, ioOf_fn, ioOf_exc, ioOf_scr, isIo_io, isIo_dat, isIo_fn, isIo_exc, isIo_scr, beq_self_eq_true, gdO_true, v_add, v_addL, v_addT, v_sub, v_mul, v_mulL, v_mulT, v_fdiv, v_mod, v_pow, v_lt, v_le, v_gt, v_ge, v_eq, v_ne, v_ixL, v_ixT, v_lenL, v_lenT, v_tupL, v_tupT, v_lstL, v_lstT, v_sum, v_sumT, v_all, v_any, v_neg, v_isN, v_notN, v_isT, v_notT, v_max, v_min, map_some', plain_one, isTys_one, List.getElem?_cons_zero, List.getElem?_cons_succ, List.set_cons_zero, List.set_cons_succ, List.cons_append, List.nil_append, List.map_cons, List.map_nil, arB, e_slcB, e_inRng, e_callV, e_callS, fnB_fn, i_wip, s_wipe, s_try, try_ret, try_exc, outR_ok, s_while, v_repr, v_revL, v_revT, v_intB, v_isF, v_notF, v_nil, cutT, cutL, cutN, cutS, cutD_list, List.replicate_succ, List.replicate_zero, w1, decide_true, cut_take, atI_map' (show a < r.length by omega), List.length_cons, List.length_nil, show lenOk (0 + 1) = true from rfl, hd1, cut_drop, tke, dre, List.length_map, List.length_append, List.length_take, List.length_drop, lenOk_of' (show min a r.length + (0 + 1) ≤ 1000000 by omega), lenOk_of' (show min a r.length + (0 + 1) + (r.length - (a + 1)) ≤ 1000000 by omega)]
      refine ⟨putR r a m, q, ?_, ?_, (putR_bd tb hm1).mono (by decide)⟩
      · unfold putR tupI
        rw [List.map_append, List.map_append]
        rfl
      · unfold RowOk; rw [putR_len (by omega)]; omega
    · simp only [e_var, e_cst, e_gfn, e_op2, e_fn1, e_fn2, e_isi, e_and, e_or, e_not, e_ite, e_chain, e_lst, e_tup, e_emp, e_nil, e_cons, e_slcL, e_slcU, e_call, e_callIo, e_comp, e_compIf, i_of, i_rng1, i_rng2, i_enum, i_zip, s_nil, s_cons, s_set, s_unp, s_par, s_drop, s_ret, s_ite, s_for, s_raise, s_app, s_sti, t_C, t_If, t_F, look_dat, look_lst, look_dct, look_io, look_fn, look_exc, look_scr, ioCall_lst, ioCall_io, stB_lst, stB_io, seq_next, seq_ret, seq_exc, R.bind_ok, R.bind_exc, oR_some, oO_some, noX_ok, gd_true, br_true, br_false, tru_bool, intOf_int, ofO_some, ofS_some, ofOut_ok, ofOut_exc, op2_dat, op2_newL, op2_slot, opd_some, fn1_dat, fn1_newL, fn1_slot, fnd_some, fn1_scr, op2_scr', fn2_dat, peek_dat', peek_newL, peek_slot, pkB_lst, pkB_io, isi_dat, frz_dat, frz_newL, frz_newD, frz_slot, fzB_lst, frzs_nil, frzs_cons, args_nil, args_fn, args_scr, args_dat, args_newL, args_newD, args_slot, setB_eq, setO_un, setO_dat, setO_lst, setO_fn, setV_newL, setV_newD, setV_fn, setV_dat, setV_slot, setDs_nil, setDs_cons, setTg_name, setTg_names, seqOf_list, seqOf_tuple, tupOf_tuple, lstOf_lst, zipS_list, zipS_tuple, ownL_eq, ownB_lst, ownB_io, ofOutIo_ok, oioB_io, oioB_lst, retV_dat, retV_newL, retV_slot, rtB_lst, ownOk_nil, ownOk_cons, ownF_un, ownF_dat, wipeB_nil, wipeB_cons, backB_nil, backB_cons, getD_some', and_tt, v_lenS, v_ixS, seqOf_sq, gdU_true, retO_some, end_ret, end_next, end_exc, ioS_io, ioS_dat, ioS_fn, ioS_exc, ioS_scr, ioOf_io, ioOf_dat, ioOf_fn, ioOf_exc, ioOf_scr, isIo_io, isIo_dat, isIo_fn, isIo_exc, isIo_scr, beq_self_eq_true, gdO_true, v_add, v_addL, v_addT, v_sub, v_mul, v_mulL, v_mulT, v_fdiv, v_mod, v_pow, v_lt, v_le, v_gt, v_ge, v_eq, v_ne, v_ixL, v_ixT, v_lenL, v_lenT, v_tupL, v_tupT, v_lstL, v_lstT, v_sum, v_sumT, v_all, v_any, v_neg, v_isN, v_notN, v_isT, v_notT, v_max, v_min, map_some', plain_one, isTys_one, List.getElem?_cons_zero, List.getElem?_cons_succ, List.set_cons_zero, List.set_cons_succ, List.cons_append, List.nil_append, List.map_cons, List.map_nil, arB, e_slcB, e_inRng, e_callV, e_callS, fnB_fn, i_wip, s_wipe, s_try, try_ret, try_exc, outR_ok, s_while, v_repr, v_revL, v_revT, v_intB, v_isF, v_notF, v_nil, cutT, cutL, cutN, cutS, cutD_list, List.replicate_succ, List.replicate_zero, w1, decide_false]
      exact ⟨r, q, rfl, ⟨by omega, by omega⟩, tb.mono (by decide)⟩
theorem comp_if {turn : D → St → R (Option D)} {f : D → Bool} {s : St} : ∀ (xs acc : List D), (∀ x ∈ xs, turn x s = .ok (if f x then some x else none) s) → loopC turn xs acc s = .ok (acc ++ xs.filter f) s
  | [], acc, _ => by unfold loopC; rw [List.filter_nil, List.append_nil]
  | x :: xs, acc, h => by
    unfold loopC
    rw [h x List.mem_cons_self]
    cases q : f x with
    | true =>
      show loopC turn xs (acc ++ [x]) s = _
      rw [comp_if xs _ fun y hy => h y (List.mem_cons_of_mem _ hy), List.filter_cons_of_pos q, List.append_assoc]
      rfl
    | false =>
      show loopC turn xs acc s = _
      rw [comp_if xs _ fun y hy => h y (List.mem_cons_of_mem _ hy), List.filter_cons_of_neg (by rw [q]; decide)]
theorem filt_eq {turn : D → St → R (Option D)} {xs : List D} {s : St} {L : R (List D)} (hL : loopC turn xs [] s = L) (f : D → Bool) (h : ∀ x ∈ xs, turn x s = .ok (if f x then some x else none) s) : L = .ok (xs.filter f) s := by
  rw [← hL, comp_if xs [] h, List.nil_append]
theorem filt_nil (xs : List D) : (xs.filter fun x => !isIntD x).isEmpty = xs.all isIntD := by
  induction xs with
  | nil => rfl
  | cons x xs ih =>
    rw [List.all_cons]
    cases q : isIntD x with
    | true => rw [List.filter_cons_of_neg (by rw [q]; decide), ih]; rfl
    | false => rw [List.filter_cons_of_pos (by rw [q]; rfl)]; rfl
theorem p_isrowA (hW : Rq__law_whole P) {nI : Nat} (hP : P nI = some ⟨1, 2, c_isrowA⟩) (d : D) : Spec P 2 nI [.dat d] (.ok (.dat (.bool (rowD d))) []) := by
  refine spec_of hP rfl fun K hK => ?_
  cases d with
  | tuple xs =>
    have e : (true ^^ decide ((1 : Int) ≤ (xs.length : Int) ∧ (xs.length : Int) < 13)) = !(decide (1 ≤ xs.length) && decide (xs.length ≤ 12)) := by
      rw [Bool.true_xor]
      congr 1
      by_cases h1 : 1 ≤ xs.length <;> by_cases h2 : xs.length ≤ 12 <;> simp [h1, h2] <;> omega
    show _ = Out.ok (.dat (.bool (decide (1 ≤ xs.length) && decide (xs.length ≤ 12) && xs.all isIntD))) []
    cases q : decide (1 ≤ xs.length) && decide (xs.length ≤ 12) with
    | false =>
      rw [q] at e
      simp only [e_var, e_cst, e_gfn, e_op2, e_fn1, e_fn2, e_isi, e_and, e_or, e_not, e_ite, e_chain, e_lst, e_tup, e_emp, e_nil, e_cons, e_slcL, e_slcU, e_call, e_callIo, e_comp, e_compIf, i_of, i_rng1, i_rng2, i_enum, i_zip, s_nil, s_cons, s_set, s_unp, s_par, s_drop, s_ret, s_ite, s_for, s_raise, s_app, s_sti, t_C, t_If, t_F, look_dat, look_lst, look_dct, look_io, look_fn, look_exc, look_scr, ioCall_lst, ioCall_io, stB_lst, stB_io, seq_next, seq_ret, seq_exc, R.bind_ok, R.bind_exc, oR_some, oO_some, noX_ok, gd_true, br_true, br_false, tru_bool, intOf_int, ofO_some, ofS_some, ofOut_ok, ofOut_exc, op2_dat, op2_newL, op2_slot, opd_some, fn1_dat, fn1_newL, fn1_slot, fnd_some, fn1_scr, op2_scr', fn2_dat, peek_dat', peek_newL, peek_slot, pkB_lst, pkB_io, isi_dat, frz_dat, frz_newL, frz_newD, frz_slot, fzB_lst, frzs_nil, frzs_cons, args_nil, args_fn, args_scr, args_dat, args_newL, args_newD, args_slot, setB_eq, setO_un, setO_dat, setO_lst, setO_fn, setV_newL, setV_newD, setV_fn, setV_dat, setV_slot, setDs_nil, setDs_cons, setTg_name, setTg_names, seqOf_list, seqOf_tuple, tupOf_tuple, lstOf_lst, zipS_list, zipS_tuple, ownL_eq, ownB_lst, ownB_io, ofOutIo_ok, oioB_io, oioB_lst, retV_dat, retV_newL, retV_slot, rtB_lst, ownOk_nil, ownOk_cons, ownF_un, ownF_dat, wipeB_nil, wipeB_cons, backB_nil, backB_cons, getD_some', and_tt, v_lenS, v_ixS, seqOf_sq, gdU_true, retO_some, end_ret, end_next, end_exc, ioS_io, ioS_dat, ioS_fn, ioS_exc, ioS_scr, ioOf_io, ioOf_dat, ioOf_fn, ioOf_exc, ioOf_scr, isIo_io, isIo_dat, isIo_fn, isIo_exc, isIo_scr, beq_self_eq_true, gdO_true, v_add, v_addL, v_addT, v_sub, v_mul, v_mulL, v_mulT, v_fdiv, v_mod, v_pow, v_lt, v_le, v_gt, v_ge, v_eq, v_ne, v_ixL, v_ixT, v_lenL, v_lenT, v_tupL, v_tupT, v_lstL, v_lstT, v_sum, v_sumT, v_all, v_any, v_neg, v_isN, v_notN, v_isT, v_notT, v_max, v_min, map_some', plain_one, isTys_one, List.getElem?_cons_zero, List.getElem?_cons_succ, List.set_cons_zero, List.set_cons_succ, List.cons_append, List.nil_append, List.map_cons, List.map_nil, arB, e_slcB, e_inRng, e_callV, e_callS, fnB_fn, i_wip, s_wipe, s_try, try_ret, try_exc, outR_ok, s_while, v_repr, v_revL, v_revT, v_intB, v_isF, v_notF, v_nil, cutT, cutL, cutN, cutS, cutD_list, List.replicate_succ, List.replicate_zero, c_isrowA, plainTy, isTy, Bool.not_true, e, Bool.not_false, Bool.false_and]
    | true =>
      rw [q] at e
      simp only [e_var, e_cst, e_gfn, e_op2, e_fn1, e_fn2, e_isi, e_and, e_or, e_not, e_ite, e_chain, e_lst, e_tup, e_emp, e_nil, e_cons, e_slcL, e_slcU, e_call, e_callIo, e_comp, e_compIf, i_of, i_rng1, i_rng2, i_enum, i_zip, s_nil, s_cons, s_set, s_unp, s_par, s_drop, s_ret, s_ite, s_for, s_raise, s_app, s_sti, t_C, t_If, t_F, look_dat, look_lst, look_dct, look_io, look_fn, look_exc, look_scr, ioCall_lst, ioCall_io, stB_lst, stB_io, seq_next, seq_ret, seq_exc, R.bind_ok, R.bind_exc, oR_some, oO_some, noX_ok, gd_true, br_true, br_false, tru_bool, intOf_int, ofO_some, ofS_some, ofOut_ok, ofOut_exc, op2_dat, op2_newL, op2_slot, opd_some, fn1_dat, fn1_newL, fn1_slot, fnd_some, fn1_scr, op2_scr', fn2_dat, peek_dat', peek_newL, peek_slot, pkB_lst, pkB_io, isi_dat, frz_dat, frz_newL, frz_newD, frz_slot, fzB_lst, frzs_nil, frzs_cons, args_nil, args_fn, args_scr, args_dat, args_newL, args_newD, args_slot, setB_eq, setO_un, setO_dat, setO_lst, setO_fn, setV_newL, setV_newD, setV_fn, setV_dat, setV_slot, setDs_nil, setDs_cons, setTg_name, setTg_names, seqOf_list, seqOf_tuple, tupOf_tuple, lstOf_lst, zipS_list, zipS_tuple, ownL_eq, ownB_lst, ownB_io, ofOutIo_ok, oioB_io, oioB_lst, retV_dat, retV_newL, retV_slot, rtB_lst, ownOk_nil, ownOk_cons, ownF_un, ownF_dat, wipeB_nil, wipeB_cons, backB_nil, backB_cons, getD_some', and_tt, v_lenS, v_ixS, seqOf_sq, gdU_true, retO_some, end_ret, end_next, end_exc, ioS_io, ioS_dat, ioS_fn, ioS_exc, ioS_scr, ioOf_io, ioOf_dat, ioOf_fn, ioOf_exc, ioOf_scr, isIo_io, isIo_dat, isIo_fn, isIo_exc, isIo_scr, beq_self_eq_true, gdO_true, v_add, v_addL, v_addT, v_sub, v_mul, v_mulL, v_mulT, v_fdiv, v_mod, v_pow, v_lt, v_le, v_gt, v_ge, v_eq, v_ne, v_ixL, v_ixT, v_lenL, v_lenT, v_tupL, v_tupT, v_lstL, v_lstT, v_sum, v_sumT, v_all, v_any, v_neg, v_isN, v_notN, v_isT, v_notT, v_max, v_min, map_some', plain_one, isTys_one, List.getElem?_cons_zero, List.getElem?_cons_succ, List.set_cons_zero, List.set_cons_succ, List.cons_append, List.nil_append, List.map_cons, List.map_nil, arB, e_slcB, e_inRng, e_callV, e_callS, fnB_fn, i_wip, s_wipe, s_try, try_ret, try_exc, outR_ok, s_while, v_repr, v_revL, v_revT, v_intB, v_isF, v_notF, v_nil, cutT, cutL, cutN, cutS, cutD_list, List.replicate_succ, List.replicate_zero, c_isrowA, plainTy, isTy, Bool.not_true, e, Bool.true_and]
      generalize hL : loopC _ _ _ _ = L
      have := filt_eq hL (fun x => !isIntD x) fun x hx => by
        have h1 := p_lwhole hW x K (by omega)
        cases z : isIntD x with
        | true => simp only [e_var, e_cst, e_gfn, e_op2, e_fn1, e_fn2, e_isi, e_and, e_or, e_not, e_ite, e_chain, e_lst, e_tup, e_emp, e_nil, e_cons, e_slcL, e_slcU, e_call, e_callIo, e_comp, e_compIf, i_of, i_rng1, i_rng2, i_enum, i_zip, s_nil, s_cons, s_set, s_unp, s_par, s_drop, s_ret, s_ite, s_for, s_raise, s_app, s_sti, t_C, t_If, t_F, look_dat, look_lst, look_dct, look_io, look_fn, look_exc, look_scr, ioCall_lst, ioCall_io, stB_lst, stB_io, seq_next, seq_ret, seq_exc, R.bind_ok, R.bind_exc, oR_some, oO_some, noX_ok, gd_true, br_true, br_false, tru_bool, intOf_int, ofO_some, ofS_some, ofOut_ok, ofOut_exc, op2_dat, op2_newL, op2_slot, opd_some, fn1_dat, fn1_newL, fn1_slot, fnd_some, fn1_scr, op2_scr', fn2_dat, peek_dat', peek_newL, peek_slot, pkB_lst, pkB_io, isi_dat, frz_dat, frz_newL, frz_newD, frz_slot, fzB_lst, frzs_nil, frzs_cons, args_nil, args_fn, args_scr, args_dat, args_newL, args_newD, args_slot, setB_eq, setO_un, setO_dat, setO_lst, setO_fn, setV_newL, setV_newD, setV_fn, setV_dat, setV_slot, setDs_nil, setDs_cons, setTg_name, setTg_names, seqOf_list, seqOf_tuple, tupOf_tuple, lstOf_lst, zipS_list, zipS_tuple, ownL_eq, ownB_lst, ownB_io, ofOutIo_ok, oioB_io, oioB_lst, retV_dat, retV_newL, retV_slot, rtB_lst, ownOk_nil, ownOk_cons, ownF_un, ownF_dat, wipeB_nil, wipeB_cons, backB_nil, backB_cons, getD_some', and_tt, v_lenS, v_ixS, seqOf_sq, gdU_true, retO_some, end_ret, end_next, end_exc, ioS_io, ioS_dat, ioS_fn, ioS_exc, ioS_scr, ioOf_io, ioOf_dat, ioOf_fn, ioOf_exc, ioOf_scr, isIo_io, isIo_dat, isIo_fn, isIo_exc, isIo_scr, beq_self_eq_true, gdO_true, v_add, v_addL, v_addT, v_sub, v_mul, v_mulL, v_mulT, v_fdiv, v_mod, v_pow, v_lt, v_le, v_gt, v_ge, v_eq, v_ne, v_ixL, v_ixT, v_lenL, v_lenT, v_tupL, v_tupT, v_lstL, v_lstT, v_sum, v_sumT, v_all, v_any, v_neg, v_isN, v_notN, v_isT, v_notT, v_max, v_min, map_some', plain_one, isTys_one, List.getElem?_cons_zero, List.getElem?_cons_succ, List.set_cons_zero, List.set_cons_succ, List.cons_append, List.nil_append, List.map_cons, List.map_nil, arB, e_slcB, e_inRng, e_callV, e_callS, fnB_fn, i_wip, s_wipe, s_try, try_ret, try_exc, outR_ok, s_while, v_repr, v_revL, v_revT, v_intB, v_isF, v_notF, v_nil, cutT, cutL, cutN, cutS, cutD_list, List.replicate_succ, List.replicate_zero, h1, z, Bool.not_true, if_false, Bool.false_eq_true]
        | false => simp only [e_var, e_cst, e_gfn, e_op2, e_fn1, e_fn2, e_isi, e_and, e_or, e_not, e_ite, e_chain, e_lst, e_tup, e_emp, e_nil, e_cons, e_slcL, e_slcU, e_call, e_callIo, e_comp, e_compIf, i_of, i_rng1, i_rng2, i_enum, i_zip, s_nil, s_cons, s_set, s_unp, s_par, s_drop, s_ret, s_ite, s_for, s_raise, s_app, s_sti, t_C, t_If, t_F, look_dat, look_lst, look_dct, look_io, look_fn, look_exc, look_scr, ioCall_lst, ioCall_io, stB_lst, stB_io, seq_next, seq_ret, seq_exc, R.bind_ok, R.bind_exc, oR_some, oO_some, noX_ok, gd_true, br_true, br_false, tru_bool, intOf_int, ofO_some, ofS_some, ofOut_ok, ofOut_exc, op2_dat, op2_newL, op2_slot, opd_some, fn1_dat, fn1_newL, fn1_slot, fnd_some, fn1_scr, op2_scr', fn2_dat, peek_dat', peek_newL, peek_slot, pkB_lst, pkB_io, isi_dat, frz_dat, frz_newL, frz_newD, frz_slot, fzB_lst, frzs_nil, frzs_cons, args_nil, args_fn, args_scr, args_dat, args_newL, args_newD, args_slot, setB_eq, setO_un, setO_dat, setO_lst, setO_fn, setV_newL, setV_newD, setV_fn, setV_dat, setV_slot, setDs_nil, setDs_cons, setTg_name, setTg_names, seqOf_list, seqOf_tuple, tupOf_tuple, lstOf_lst, zipS_list, zipS_tuple, ownL_eq, ownB_lst, ownB_io, ofOutIo_ok, oioB_io, oioB_lst, retV_dat, retV_newL, retV_slot, rtB_lst, ownOk_nil, ownOk_cons, ownF_un, ownF_dat, wipeB_nil, wipeB_cons, backB_nil, backB_cons, getD_some', and_tt, v_lenS, v_ixS, seqOf_sq, gdU_true, retO_some, end_ret, end_next, end_exc, ioS_io, ioS_dat, ioS_fn, ioS_exc, ioS_scr, ioOf_io, ioOf_dat, ioOf_fn, ioOf_exc, ioOf_scr, isIo_io, isIo_dat, isIo_fn, isIo_exc, isIo_scr, beq_self_eq_true, gdO_true, v_add, v_addL, v_addT, v_sub, v_mul, v_mulL, v_mulT, v_fdiv, v_mod, v_pow, v_lt, v_le, v_gt, v_ge, v_eq, v_ne, v_ixL, v_ixT, v_lenL, v_lenT, v_tupL, v_tupT, v_lstL, v_lstT, v_sum, v_sumT, v_all, v_any, v_neg, v_isN, v_notN, v_isT, v_notT, v_max, v_min, map_some', plain_one, isTys_one, List.getElem?_cons_zero, List.getElem?_cons_succ, List.set_cons_zero, List.set_cons_succ, List.cons_append, List.nil_append, List.map_cons, List.map_nil, arB, e_slcB, e_inRng, e_callV, e_callS, fnB_fn, i_wip, s_wipe, s_try, try_ret, try_exc, outR_ok, s_while, v_repr, v_revL, v_revT, v_intB, v_isF, v_notF, v_nil, cutT, cutL, cutN, cutS, cutD_list, List.replicate_succ, List.replicate_zero, h1, z, Bool.not_false, if_true]
      subst this
      simp only [e_var, e_cst, e_gfn, e_op2, e_fn1, e_fn2, e_isi, e_and, e_or, e_not, e_ite, e_chain, e_lst, e_tup, e_emp, e_nil, e_cons, e_slcL, e_slcU, e_call, e_callIo, e_comp, e_compIf, i_of, i_rng1, i_rng2, i_enum, i_zip, s_nil, s_cons, s_set, s_unp, s_par, s_drop, s_ret, s_ite, s_for, s_raise, s_app, s_sti, t_C, t_If, t_F, look_dat, look_lst, look_dct, look_io, look_fn, look_exc, look_scr, ioCall_lst, ioCall_io, stB_lst, stB_io, seq_next, seq_ret, seq_exc, R.bind_ok, R.bind_exc, oR_some, oO_some, noX_ok, gd_true, br_true, br_false, tru_bool, intOf_int, ofO_some, ofS_some, ofOut_ok, ofOut_exc, op2_dat, op2_newL, op2_slot, opd_some, fn1_dat, fn1_newL, fn1_slot, fnd_some, fn1_scr, op2_scr', fn2_dat, peek_dat', peek_newL, peek_slot, pkB_lst, pkB_io, isi_dat, frz_dat, frz_newL, frz_newD, frz_slot, fzB_lst, frzs_nil, frzs_cons, args_nil, args_fn, args_scr, args_dat, args_newL, args_newD, args_slot, setB_eq, setO_un, setO_dat, setO_lst, setO_fn, setV_newL, setV_newD, setV_fn, setV_dat, setV_slot, setDs_nil, setDs_cons, setTg_name, setTg_names, seqOf_list, seqOf_tuple, tupOf_tuple, lstOf_lst, zipS_list, zipS_tuple, ownL_eq, ownB_lst, ownB_io, ofOutIo_ok, oioB_io, oioB_lst, retV_dat, retV_newL, retV_slot, rtB_lst, ownOk_nil, ownOk_cons, ownF_un, ownF_dat, wipeB_nil, wipeB_cons, backB_nil, backB_cons, getD_some', and_tt, v_lenS, v_ixS, seqOf_sq, gdU_true, retO_some, end_ret, end_next, end_exc, ioS_io, ioS_dat, ioS_fn, ioS_exc, ioS_scr, ioOf_io, ioOf_dat, ioOf_fn, ioOf_exc, ioOf_scr, isIo_io, isIo_dat, isIo_fn, isIo_exc, isIo_scr, beq_self_eq_true, gdO_true, v_add, v_addL, v_addT, v_sub, v_mul, v_mulL, v_mulT, v_fdiv, v_mod, v_pow, v_lt, v_le, v_gt, v_ge, v_eq, v_ne, v_ixL, v_ixT, v_lenL, v_lenT, v_tupL, v_tupT, v_lstL, v_lstT, v_sum, v_sumT, v_all, v_any, v_neg, v_isN, v_notN, v_isT, v_notT, v_max, v_min, map_some', plain_one, isTys_one, List.getElem?_cons_zero, List.getElem?_cons_succ, List.set_cons_zero, List.set_cons_succ, List.cons_append, List.nil_append, List.map_cons, List.map_nil, arB, e_slcB, e_inRng, e_callV, e_callS, fnB_fn, i_wip, s_wipe, s_try, try_ret, try_exc, outR_ok, s_while, v_repr, v_revL, v_revT, v_intB, v_isF, v_notF, v_nil, cutT, cutL, cutN, cutS, cutD_list, List.replicate_succ, List.replicate_zero, filt_nil]
  | _ => simp only [e_var, e_cst, e_gfn, e_op2, e_fn1, e_fn2, e_isi, e_and, e_or, e_not, e_ite, e_chain, e_lst, e_tup, e_emp, e_nil, e_cons, e_slcL, e_slcU, e_call, e_callIo, e_comp, e_compIf, i_of, i_rng1, i_rng2, i_enum, i_zip, s_nil, s_cons, s_set, s_unp, s_par, s_drop, s_ret, s_ite, s_for, s_raise, s_app, s_sti, t_C, t_If, t_F, look_dat, look_lst, look_dct, look_io, look_fn, look_exc, look_scr, ioCall_lst, ioCall_io, stB_lst, stB_io, seq_next, seq_ret, seq_exc, R.bind_ok, R.bind_exc, oR_some, oO_some, noX_ok, gd_true, br_true, br_false, tru_bool, intOf_int, ofO_some, ofS_some, ofOut_ok, ofOut_exc, op2_dat, op2_newL, op2_slot, opd_some, fn1_dat, fn1_newL, fn1_slot, fnd_some, fn1_scr, op2_scr', fn2_dat, peek_dat', peek_newL, peek_slot, pkB_lst, pkB_io, isi_dat, frz_dat, frz_newL, frz_newD, frz_slot, fzB_lst, frzs_nil, frzs_cons, args_nil, args_fn, args_scr, args_dat, args_newL, args_newD, args_slot, setB_eq, setO_un, setO_dat, setO_lst, setO_fn, setV_newL, setV_newD, setV_fn, setV_dat, setV_slot, setDs_nil, setDs_cons, setTg_name, setTg_names, seqOf_list, seqOf_tuple, tupOf_tuple, lstOf_lst, zipS_list, zipS_tuple, ownL_eq, ownB_lst, ownB_io, ofOutIo_ok, oioB_io, oioB_lst, retV_dat, retV_newL, retV_slot, rtB_lst, ownOk_nil, ownOk_cons, ownF_un, ownF_dat, wipeB_nil, wipeB_cons, backB_nil, backB_cons, getD_some', and_tt, v_lenS, v_ixS, seqOf_sq, gdU_true, retO_some, end_ret, end_next, end_exc, ioS_io, ioS_dat, ioS_fn, ioS_exc, ioS_scr, ioOf_io, ioOf_dat, ioOf_fn, ioOf_exc, ioOf_scr, isIo_io, isIo_dat, isIo_fn, isIo_exc, isIo_scr, beq_self_eq_true, gdO_true, v_add, v_addL, v_addT, v_sub, v_mul, v_mulL, v_mulT, v_fdiv, v_mod, v_pow, v_lt, v_le, v_gt, v_ge, v_eq, v_ne, v_ixL, v_ixT, v_lenL, v_lenT, v_tupL, v_tupT, v_lstL, v_lstT, v_sum, v_sumT, v_all, v_any, v_neg, v_isN, v_notN, v_isT, v_notT, v_max, v_min, map_some', plain_one, isTys_one, List.getElem?_cons_zero, List.getElem?_cons_succ, List.set_cons_zero, List.set_cons_succ, List.cons_append, List.nil_append, List.map_cons, List.map_nil, arB, e_slcB, e_inRng, e_callV, e_callS, fnB_fn, i_wip, s_wipe, s_try, try_ret, try_exc, outR_ok, s_while, v_repr, v_revL, v_revT, v_intB, v_isF, v_notF, v_nil, cutT, cutL, cutN, cutS, cutD_list, List.replicate_succ, List.replicate_zero, c_isrowA, plainTy, isTy, Bool.not_false, rowD]
theorem p_toldA {nT nB : Nat} (h : P 87 = some ⟨2, 4, c_toldA⟩) {a n d : D} {L : Nat} (hs : Spec P L 88 [.dat a, .dat n] (.ok (.dat d) [])) (ha : Sh 6 1000000 a) (hn : Sh 6 1000000 n) : Spec P (L + 1) 87 [.dat a, .dat n] (.ok (.dat d) []) := by
  refine spec_of h rfl fun K hK => ?_
  have e1 := hs K hK
  have so : showOk (.list [a, n]) = true := sh_ok (sh_lst (L := 2) (n := 6) (B := 1000000) (fun x hx => by
    simp only [List.mem_cons, List.not_mem_nil, or_false] at hx
    rcases hx with rfl | rfl <;> assumption) (Nat.le_refl _)) (by decide) (by decide)
  simp only [e_var, e_cst, e_gfn, e_op2, e_fn1, e_fn2, e_isi, e_and, e_or, e_not, e_ite, e_chain, e_lst, e_tup, e_emp, e_nil, e_cons, e_slcL, e_slcU, e_call, e_callIo, e_comp, e_compIf, i_of, i_rng1, i_rng2, i_enum, i_zip, s_nil, s_cons, s_set, s_unp, s_par, s_drop, s_ret, s_ite, s_for, s_raise, s_app, s_sti, t_C, t_If, t_F, look_dat, look_lst, look_dct, look_io, look_fn, look_exc, look_scr, ioCall_lst, ioCall_io, stB_lst, stB_io, seq_next, seq_ret, seq_exc, R.bind_ok, R.bind_exc, oR_some, oO_some, noX_ok, gd_true, br_true, br_false, tru_bool, intOf_int, ofO_some, ofS_some, ofOut_ok, ofOut_exc, op2_dat, op2_newL, op2_slot, opd_some, fn1_dat, fn1_newL, fn1_slot, fnd_some, fn1_scr, op2_scr', fn2_dat, peek_dat', peek_newL, peek_slot, pkB_lst, pkB_io, isi_dat, frz_dat, frz_newL, frz_newD, frz_slot, fzB_lst, frzs_nil, frzs_cons, args_nil, args_fn, args_scr, args_dat, args_newL, args_newD, args_slot, setB_eq, setO_un, setO_dat, setO_lst, setO_fn, setV_newL, setV_newD, setV_fn, setV_dat, setV_slot, setDs_nil, setDs_cons, setTg_name, setTg_names, seqOf_list, seqOf_tuple, tupOf_tuple, lstOf_lst, zipS_list, zipS_tuple, ownL_eq, ownB_lst, ownB_io, ofOutIo_ok, oioB_io, oioB_lst, retV_dat, retV_newL, retV_slot, rtB_lst, ownOk_nil, ownOk_cons, ownF_un, ownF_dat, wipeB_nil, wipeB_cons, backB_nil, backB_cons, getD_some', and_tt, v_lenS, v_ixS, seqOf_sq, gdU_true, retO_some, end_ret, end_next, end_exc, ioS_io, ioS_dat, ioS_fn, ioS_exc, ioS_scr, ioOf_io, ioOf_dat, ioOf_fn, ioOf_exc, ioOf_scr, isIo_io, isIo_dat, isIo_fn, isIo_exc, isIo_scr, beq_self_eq_true, gdO_true, v_add, v_addL, v_addT, v_sub, v_mul, v_mulL, v_mulT, v_fdiv, v_mod, v_pow, v_lt, v_le, v_gt, v_ge, v_eq, v_ne, v_ixL, v_ixT, v_lenL, v_lenT, v_tupL, v_tupT, v_lstL, v_lstT, v_sum, v_sumT, v_all, v_any, v_neg, v_isN, v_notN, v_isT, v_notT, v_max, v_min, map_some', plain_one, isTys_one, List.getElem?_cons_zero, List.getElem?_cons_succ, List.set_cons_zero, List.set_cons_succ, List.cons_append, List.nil_append, List.map_cons, List.map_nil, arB, e_slcB, e_inRng, e_callV, e_callS, fnB_fn, i_wip, s_wipe, s_try, try_ret, try_exc, outR_ok, s_while, v_repr, v_revL, v_revT, v_intB, v_isF, v_notF, v_nil, cutT, cutL, cutN, cutS, cutD_list, List.replicate_succ, List.replicate_zero, c_toldA, e1, so, List.length_cons, List.length_nil, show lenOk (0 + 1 + 1) = true from rfl, v_eq, fit_str, Bool.and_self, eqv_str, decide_true]
/-- what a bent row is good for -/
def BentOk (d : D) : Prop := Sh 6 1000000 d ∧ (rowD d = true → ∃ ns, d = tupI ns ∧ RowOk ns ∧ Bd 250 ns)
def oddL : List D := [.none, .bool true, .bool false, .int (-1), .int 0, .int 16, .int (10 ^ (30 : Int).toNat), .str "", .str "0,1", .tuple [], .tuple [.tuple []], .list [.tuple []], .tuple [.int 0], .dict [], .tuple [.tuple [.int 0, .int 1], .list [.int 2]], .tuple [.bool true]]
theorem p_odd (h : Rq__law_odd P) (p : Int) {K : Nat} (hK : 1 ≤ K) : ∃ d ∈ oddL, dFun P (K + 1) 58 [.io [.int p]] = .ok (.dat d) [.int (p / 16)] := by
  rw [fun_un h.1 rfl]
  have t16 := q_take h.2 hK p 16 5 (by decide) (by decide) (by decide)
  obtain ⟨d, hd, ed⟩ := atI_mem (xs := oddL) (md2 p 16 (by decide)).1 (md2 p 16 (by decide)).2
  unfold oddL at ed
  have pk30 : powOk 10 30 = true := by decide +kernel
  refine ⟨d, hd, ?_⟩
  simp only [e_var, e_cst, e_gfn, e_op2, e_fn1, e_fn2, e_isi, e_and, e_or, e_not, e_ite, e_chain, e_lst, e_tup, e_emp, e_nil, e_cons, e_slcL, e_slcU, e_call, e_callIo, e_comp, e_compIf, i_of, i_rng1, i_rng2, i_enum, i_zip, s_nil, s_cons, s_set, s_unp, s_par, s_drop, s_ret, s_ite, s_for, s_raise, s_app, s_sti, t_C, t_If, t_F, look_dat, look_lst, look_dct, look_io, look_fn, look_exc, look_scr, ioCall_lst, ioCall_io, stB_lst, stB_io, seq_next, seq_ret, seq_exc, R.bind_ok, R.bind_exc, oR_some, oO_some, noX_ok, gd_true, br_true, br_false, tru_bool, intOf_int, ofO_some, ofS_some, ofOut_ok, ofOut_exc, op2_dat, op2_newL, op2_slot, opd_some, fn1_dat, fn1_newL, fn1_slot, fnd_some, fn1_scr, op2_scr', fn2_dat, peek_dat', peek_newL, peek_slot, pkB_lst, pkB_io, isi_dat, frz_dat, frz_newL, frz_newD, frz_slot, fzB_lst, frzs_nil, frzs_cons, args_nil, args_fn, args_scr, args_dat, args_newL, args_newD, args_slot, setB_eq, setO_un, setO_dat, setO_lst, setO_fn, setV_newL, setV_newD, setV_fn, setV_dat, setV_slot, setDs_nil, setDs_cons, setTg_name, setTg_names, seqOf_list, seqOf_tuple, tupOf_tuple, lstOf_lst, zipS_list, zipS_tuple, ownL_eq, ownB_lst, ownB_io, ofOutIo_ok, oioB_io, oioB_lst, retV_dat, retV_newL, retV_slot, rtB_lst, ownOk_nil, ownOk_cons, ownF_un, ownF_dat, wipeB_nil, wipeB_cons, backB_nil, backB_cons, getD_some', and_tt, v_lenS, v_ixS, seqOf_sq, gdU_true, retO_some, end_ret, end_next, end_exc, ioS_io, ioS_dat, ioS_fn, ioS_exc, ioS_scr, ioOf_io, ioOf_dat, ioOf_fn, ioOf_exc, ioOf_scr, isIo_io, isIo_dat, isIo_fn, isIo_exc, isIo_scr, beq_self_eq_true, gdO_true, v_add, v_addL, v_addT, v_sub, v_mul, v_mulL, v_mulT, v_fdiv, v_mod, v_pow, v_lt, v_le, v_gt, v_ge, v_eq, v_ne, v_ixL, v_ixT, v_lenL, v_lenT, v_tupL, v_tupT, v_lstL, v_lstT, v_sum, v_sumT, v_all, v_any, v_neg, v_isN, v_notN, v_isT, v_notT, v_max, v_min, map_some', plain_one, isTys_one, List.getElem?_cons_zero, List.getElem?_cons_succ, List.set_cons_zero, List.set_cons_succ, List.cons_append, List.nil_append, List.map_cons, List.map_nil, arB, e_slcB, e_inRng, e_callV, e_callS, fnB_fn, i_wip, s_wipe, s_try, try_ret, try_exc, outR_ok, s_while, v_repr, v_revL, v_revT, v_intB, v_isF, v_notF, v_nil, cutT, cutL, cutN, cutS, cutD_list, List.replicate_succ, List.replicate_zero, c__law_odd, pk30, t16, List.length_cons, List.length_nil, show lenOk 0 = true from rfl, show lenOk (0 + 1) = true from rfl, show lenOk (0 + 1 + 1) = true from rfl, show lenOk (0 + 1 + 1 + 1 + 1 + 1 + 1 + 1 + 1 + 1 + 1 + 1 + 1 + 1 + 1 + 1 + 1) = true from rfl, ed]
theorem odd_bent {d : D} (h : d ∈ oddL) : BentOk d := by
  unfold oddL at h
  simp only [List.mem_cons, List.not_mem_nil, or_false] at h
  rcases h with rfl | rfl | rfl | rfl | rfl | rfl | rfl | rfl | rfl | rfl | rfl | rfl | rfl | rfl | rfl | rfl
  all_goals first
    | exact ⟨⟨by decide +kernel, by decide +kernel⟩, fun z => absurd z (by decide)⟩
    | exact ⟨⟨by decide +kernel, by decide +kernel⟩, fun _ => ⟨[0], rfl, by unfold RowOk; decide, by unfold Bd; decide +kernel⟩⟩
theorem p_bent (h : Rq__law_bent_row P) {r : List Int} (hr : RowOk r) (hb : Bd 250 r) (p : Int) {K : Nat} (hK : 2 ≤ K) : ∃ (d : D) (q : Int), BentOk d ∧ dFun P (K + 1) 7 [.io [.int p], .dat (tupI r)] = .ok (.dat d) [.int q] := by
  rw [fun_un h.1 rfl]
  have tk := q_take h.2.1 (K := K) (by omega)
  have t9 := fun p => tk p 9 5 (by decide) (by decide) (by decide)
  have t7 := fun p => tk p 7 5 (by decide) (by decide) (by decide)
  have tl := fun p => tk p (r.length : Nat) 10 (by have := hr.1; omega) (by have := hr.2; omega) (by decide)
  have hl1 := hr.1
  have hl2 := hr.2
  obtain ⟨a, ha, ha2⟩ : ∃ a : Nat, p / 9 % (r.length : Nat) = (a : Int) ∧ a < r.length := ⟨(p / 9 % (r.length : Nat)).toNat, by have := md2 (p / 9) (r.length : Nat) (by omega); omega, by have := md2 (p / 9) (r.length : Nat) (by omega); omega⟩
  generalize hq0 : p / 9 / (r.length : Nat) = q0
  obtain ⟨o, ho, eo⟩ := atI_mem (xs := [PyData.bool true, .bool false, .none, .str "1", .tuple [.int 1], .list [.int 1], .dict []]) (md2 q0 7 (by decide)).1 (md2 q0 7 (by decide)).2
  have oN : isIntD o = false ∧ Sh 2 1930 o := by
    simp only [List.mem_cons, List.not_mem_nil, or_false] at ho
    rcases ho with rfl | rfl | rfl | rfl | rfl | rfl | rfl <;> exact ⟨rfl, by decide +kernel, by decide +kernel⟩
  obtain ⟨K', rfl⟩ : ∃ K', K = K' + 1 := ⟨K - 1, by omega⟩
  obtain ⟨x, hx, ex⟩ := p_odd h.2.2 (q0 / 7) (K := K') (by omega)
  have a1 : ((a : Nat) : Int) + 1 = ((a + 1 : Nat) : Int) := by omega
  have c13 : ∀ xs : List D, cut xs none (some 13) = xs.take 13 := fun xs => cut_take xs 13
  obtain ⟨v, hv, hv2⟩ : ∃ v : Nat, p % 9 = (v : Int) ∧ v < 9 := ⟨(p % 9).toNat, by have := md2 p 9 (by decide); omega, by have := md2 p 9 (by decide); omega⟩
  have shI : ∀ x ∈ r.map PyData.int, Sh 2 1930 x := fun x hx => by
    obtain ⟨i, hi, rfl⟩ := List.mem_map.mp hx
    exact (sh_int (hb i hi) (by decide)).mono (by decide) (Nat.le_refl _)
  have putOk : ∀ b, a ≤ b → BentOk (.tuple ((r.map .int).take a ++ [o] ++ (r.map .int).drop b)) := fun b hab => by
    refine ⟨(sh_tup (L := 20) (n := 2) (B := 1930) (fun x hx => ?_) ?_).mono (by decide) (by decide), fun z => ?_⟩
    · rcases List.mem_append.mp hx with h | h
      · rcases List.mem_append.mp h with h | h
        · exact shI x (List.mem_of_mem_take h)
        · rw [List.mem_singleton.mp h]; exact oN.2
      · exact shI x (List.mem_of_mem_drop h)
    · rw [List.length_append, List.length_append, List.length_take, List.length_drop, List.length_map, List.length_singleton]; omega
    · exfalso
      have z : (_ && ((r.map PyData.int).take a ++ [o] ++ (r.map PyData.int).drop b).all isIntD) = true := z
      rw [List.all_append, List.all_append, List.all_cons, oN.1, Bool.false_and, Bool.and_false, Bool.false_and, Bool.and_false] at z
      cases z
  have hv3 : (v : Int) < (([PyData.tuple ((r.map .int).take a ++ [o] ++ (r.map .int).drop (a + 1)), .tuple ((r.map .int).take a ++ [o] ++ (r.map .int).drop (a + 1)), .tuple ((r.map .int).take a ++ [o] ++ (r.map .int).drop (a + 1)), .list (r.map .int), .tuple [], .tuple ((List.replicate (13 : Int).toNat (r.map PyData.int)).flatten.take 13), .tuple [.tuple (r.map .int)], x, .tuple ((r.map .int).take a ++ [o] ++ (r.map .int).drop a)] : List D).length : Int) := by show (v : Int) < 9; omega
  obtain ⟨d, hd, ed⟩ := atI_mem (xs := [PyData.tuple ((r.map .int).take a ++ [o] ++ (r.map .int).drop (a + 1)), .tuple ((r.map .int).take a ++ [o] ++ (r.map .int).drop (a + 1)), .tuple ((r.map .int).take a ++ [o] ++ (r.map .int).drop (a + 1)), .list (r.map .int), .tuple [], .tuple ((List.replicate (13 : Int).toNat (r.map PyData.int)).flatten.take 13), .tuple [.tuple (r.map .int)], x, .tuple ((r.map .int).take a ++ [o] ++ (r.map .int).drop a)]) (r := (v : Nat)) (by omega) hv3
  refine ⟨d, q0 / 7 / 16, ?_, ?_⟩
  · simp only [List.mem_cons, List.not_mem_nil, or_false] at hd
    rcases hd with rfl | rfl | rfl | rfl | rfl | rfl | rfl | rfl | rfl
    · exact putOk _ (by omega)
    · exact putOk _ (by omega)
    · exact putOk _ (by omega)
    · exact ⟨(sh_lst (L := 20) shI (by rw [List.length_map]; omega)).mono (by decide) (by decide), fun z => nomatch z⟩
    · exact ⟨⟨by decide, by decide⟩, fun z => absurd z (by decide)⟩
    · refine ⟨(sh_tup (L := 20) (n := 2) (B := 1930) (fun x hx => ?_) (by rw [List.length_take]; omega)).mono (by decide) (by decide), fun z => ?_⟩
      · obtain ⟨l, hl, hxl⟩ := List.mem_flatten.mp (List.mem_of_mem_take hx)
        rw [List.eq_of_mem_replicate hl] at hxl
        exact shI x hxl
      · exfalso
        have z : (decide _ && decide (((List.replicate (13 : Int).toNat (r.map PyData.int)).flatten.take 13).length ≤ 12) && _) = true := z
        have e13 : ((List.replicate (13 : Int).toNat (r.map PyData.int)).flatten.take 13).length = 13 := by
          rw [List.length_take, List.length_flatten, List.map_replicate, List.sum_replicate_nat, List.length_map]
          show min 13 (13 * r.length) = 13
          omega
        rw [e13, Bool.and_eq_true, Bool.and_eq_true] at z
        exact absurd z.1.2 (by decide)
    · refine ⟨(sh_tup (L := 1) (n := 3) (B := 50000) (fun x hx => ?_) (Nat.le_refl _)).mono (by decide) (by decide), fun z => ?_⟩
      · rw [List.mem_singleton.mp hx]
        exact (sh_tup (L := 20) shI (by rw [List.length_map]; omega)).mono (by decide) (by decide)
      · cases z
    · exact odd_bent hx
    · exact putOk _ (Nat.le_refl _)
  · unfold tupI
    have hne : (r.map PyData.int).isEmpty = false := by
      cases r with
      | nil => cases hl1
      | cons a b => rfl
    simp only [e_var, e_cst, e_gfn, e_op2, e_fn1, e_fn2, e_isi, e_and, e_or, e_not, e_ite, e_chain, e_lst, e_tup, e_emp, e_nil, e_cons, e_slcL, e_slcU, e_call, e_callIo, e_comp, e_compIf, i_of, i_rng1, i_rng2, i_enum, i_zip, s_nil, s_cons, s_set, s_unp, s_par, s_drop, s_ret, s_ite, s_for, s_raise, s_app, s_sti, t_C, t_If, t_F, look_dat, look_lst, look_dct, look_io, look_fn, look_exc, look_scr, ioCall_lst, ioCall_io, stB_lst, stB_io, seq_next, seq_ret, seq_exc, R.bind_ok, R.bind_exc, oR_some, oO_some, noX_ok, gd_true, br_true, br_false, tru_bool, intOf_int, ofO_some, ofS_some, ofOut_ok, ofOut_exc, op2_dat, op2_newL, op2_slot, opd_some, fn1_dat, fn1_newL, fn1_slot, fnd_some, fn1_scr, op2_scr', fn2_dat, peek_dat', peek_newL, peek_slot, pkB_lst, pkB_io, isi_dat, frz_dat, frz_newL, frz_newD, frz_slot, fzB_lst, frzs_nil, frzs_cons, args_nil, args_fn, args_scr, args_dat, args_newL, args_newD, args_slot, setB_eq, setO_un, setO_dat, setO_lst, setO_fn, setV_newL, setV_newD, setV_fn, setV_dat, setV_slot, setDs_nil, setDs_cons, setTg_name, setTg_names, seqOf_list, seqOf_tuple, tupOf_tuple, lstOf_lst, zipS_list, zipS_tuple, ownL_eq, ownB_lst, ownB_io, ofOutIo_ok, oioB_io, oioB_lst, retV_dat, retV_newL, retV_slot, rtB_lst, ownOk_nil, ownOk_cons, ownF_un, ownF_dat, wipeB_nil, wipeB_cons, backB_nil, backB_cons, getD_some', and_tt, v_lenS, v_ixS, seqOf_sq, gdU_true, retO_some, end_ret, end_next, end_exc, ioS_io, ioS_dat, ioS_fn, ioS_exc, ioS_scr, ioOf_io, ioOf_dat, ioOf_fn, ioOf_exc, ioOf_scr, isIo_io, isIo_dat, isIo_fn, isIo_exc, isIo_scr, beq_self_eq_true, gdO_true, v_add, v_addL, v_addT, v_sub, v_mul, v_mulL, v_mulT, v_fdiv, v_mod, v_pow, v_lt, v_le, v_gt, v_ge, v_eq, v_ne, v_ixL, v_ixT, v_lenL, v_lenT, v_tupL, v_tupT, v_lstL, v_lstT, v_sum, v_sumT, v_all, v_any, v_neg, v_isN, v_notN, v_isT, v_notT, v_max, v_min, map_some', plain_one, isTys_one, List.getElem?_cons_zero, List.getElem?_cons_succ, List.set_cons_zero, List.set_cons_succ, List.cons_append, List.nil_append, List.map_cons, List.map_nil, arB, e_slcB, e_inRng, e_callV, e_callS, fnB_fn, i_wip, s_wipe, s_try, try_ret, try_exc, outR_ok, s_while, v_repr, v_revL, v_revT, v_intB, v_isF, v_notF, v_nil, cutT, cutL, cutN, cutS, cutD_list, List.replicate_succ, List.replicate_zero, c__law_bent_row, t9, t7, tl, hv, ha, hq0, eo, a1, List.length_map, List.length_cons, List.length_nil, show lenOk 0 = true from rfl, show lenOk (0 + 1) = true from rfl, show lenOk (0 + 1 + 1 + 1 + 1 + 1 + 1 + 1) = true from rfl, show lenOk (0 + 1 + 1 + 1 + 1 + 1 + 1 + 1 + 1 + 1) = true from rfl, cut_take, cut_drop, c13, List.length_append, List.length_take, List.length_drop, lenOk_of' (show min a r.length + (0 + 1) ≤ 1000000 by omega), lenOk_of' (show min a r.length + (0 + 1) + (r.length - (a + 1)) ≤ 1000000 by omega), lenOk_of' (show min a r.length + (0 + 1) + (r.length - a) ≤ 1000000 by omega), hne, Bool.not_false, decide_eq_true (show r.length ≤ 1000 by omega), show decide ((13 : Int) ≤ 1000) = true from rfl, show decide ((2 : Int) ≤ 13) = true from rfl, ex, ed]
end
end Fc

namespace Fc
open PySem
theorem comp_fm {turn : D → St → R (Option D)} {g : D → Option D} {s : St} : ∀ (xs acc : List D), (∀ x ∈ xs, turn x s = .ok (g x) s) → loopC turn xs acc s = .ok (acc ++ xs.filterMap g) s
  | [], acc, _ => by unfold loopC; rw [List.filterMap_nil, List.append_nil]
  | x :: xs, acc, h => by
    unfold loopC
    rw [h x List.mem_cons_self]
    cases q : g x with
    | some y =>
      show loopC turn xs (acc ++ [y]) s = _
      rw [comp_fm xs _ fun y hy => h y (List.mem_cons_of_mem _ hy), List.filterMap_cons, q, List.append_assoc]
      rfl
    | none =>
      show loopC turn xs acc s = _
      rw [comp_fm xs _ fun y hy => h y (List.mem_cons_of_mem _ hy), List.filterMap_cons, q]
theorem fm_eq {turn : D → St → R (Option D)} {xs : List D} {s : St} {L : R (List D)} (hL : loopC turn xs [] s = L) (g : D → Option D) (h : ∀ x ∈ xs, turn x s = .ok (g x) s) : L = .ok (xs.filterMap g) s := by
  rw [← hL, comp_fm xs [] h, List.nil_append]
section
variable {P : Nat → Option Fd}
theorem q_turned (h : Rq_turned P) {ns : List Int} {b : Nat} (hr : RowOk ns) (hB : Bd b ns) (hb2 : b ≤ 9000) : Spec P 5 194 [.dat (tupI ns)] (.ok (.dat (tupI (trL (ns.length - 1 : Nat) ns))) []) :=
  p_turned h.1 h.2.1.1 h.2.1.2.1 h.2.1.2.2.1 h.2.1.2.2.2 h.2.2.1 h.2.2.2.1 h.2.2.2.2 hr hB hb2
theorem q_turned_back (h : Rq_turned_back P) {ns : List Int} {b : Nat} (hr : RowOk ns) (hB : Bd b ns) (hb2 : b ≤ 9000) : Spec P 5 195 [.dat (tupI ns)] (.ok (.dat (tupI (bkL ns))) []) :=
  p_turned_back h.1 h.2.1.1 h.2.1.2.1 h.2.1.2.2.1 h.2.1.2.2.2 h.2.2.1 h.2.2.2 hr hB hb2
theorem q_is_even (h : Rq_is_even P) {ns : List Int} {b : Nat} (hr : RowOk ns) (hB : Bd b ns) (hb2 : b ≤ 9000) : Spec P 5 149 [.dat (tupI ns)] (.ok (.dat (.bool (unev (trL (ns.length - 1 : Nat) ns) 0 ns.length).isNone)) []) :=
  p_is_even h.1 h.2.1.1 h.2.1.2.1 h.2.1.2.2.1 h.2.1.2.2.2 h.2.2.1 h.2.2.2.1 h.2.2.2.2.1 h.2.2.2.2.2 hr hB hb2
theorem q_first_uneven (h : Rq_first_uneven P) {ns : List Int} {b : Nat} (hr : RowOk ns) (hB : Bd b ns) (hb2 : b ≤ 9000) : Spec P 5 140 [.dat (tupI ns)] (.ok (.dat (optI (unev (trL (ns.length - 1 : Nat) ns) 0 ns.length))) []) :=
  p_first_uneven h.1 h.2.1.1 h.2.1.2.1 h.2.1.2.2.1 h.2.1.2.2.2 h.2.2.1 h.2.2.2.1 h.2.2.2.2.1 h.2.2.2.2.2 hr hB hb2
theorem q_steps (h : Rq_steps P) {ns : List Int} {b : Nat} (hr : RowOk ns) (hB : Bd b ns) (hb2 : b ≤ 9000) : Spec P 5 186 [.dat (tupI ns)] (.ok (.dat (tupI (stL (trL (ns.length - 1 : Nat) ns)))) []) :=
  p_steps h.1 h.2.1.1 h.2.1.2.1 h.2.1.2.2.1 h.2.1.2.2.2 h.2.2.1 h.2.2.2.1 h.2.2.2.2.1 h.2.2.2.2.2 hr hB hb2
/-- what is no row is refused -/
theorem row_ref {f n : Nat} {rest : Ss} (hP : P f = some ⟨1, n, .cons (.drop (.call 121 (.cons (.var 0) .nil))) rest⟩) (hc : Rq_check_row P) {d : D} (hd : rowD d = false) : Spec P 5 f [.dat d] (.exc 7 []) := by
  refine spec_of hP rfl fun K hK => ?_
  have h1 := p_chkrow hc d K (by omega)
  rw [hd, if_neg (by decide)] at h1
  simp only [e_var, e_cst, e_gfn, e_op2, e_fn1, e_fn2, e_isi, e_and, e_or, e_not, e_ite, e_chain, e_lst, e_tup, e_emp, e_nil, e_cons, e_slcL, e_slcU, e_call, e_callIo, e_comp, e_compIf, i_of, i_rng1, i_rng2, i_enum, i_zip, s_nil, s_cons, s_set, s_unp, s_par, s_drop, s_ret, s_ite, s_for, s_raise, s_app, s_sti, t_C, t_If, t_F, look_dat, look_lst, look_dct, look_io, look_fn, look_exc, look_scr, ioCall_lst, ioCall_io, stB_lst, stB_io, seq_next, seq_ret, seq_exc, R.bind_ok, R.bind_exc, oR_some, oO_some, noX_ok, gd_true, br_true, br_false, tru_bool, intOf_int, ofO_some, ofS_some, ofOut_ok, ofOut_exc, op2_dat, op2_newL, op2_slot, opd_some, fn1_dat, fn1_newL, fn1_slot, fnd_some, fn1_scr, op2_scr', fn2_dat, peek_dat', peek_newL, peek_slot, pkB_lst, pkB_io, isi_dat, frz_dat, frz_newL, frz_newD, frz_slot, fzB_lst, frzs_nil, frzs_cons, args_nil, args_fn, args_scr, args_dat, args_newL, args_newD, args_slot, setB_eq, setO_un, setO_dat, setO_lst, setO_fn, setV_newL, setV_newD, setV_fn, setV_dat, setV_slot, setDs_nil, setDs_cons, setTg_name, setTg_names, seqOf_list, seqOf_tuple, tupOf_tuple, lstOf_lst, zipS_list, zipS_tuple, ownL_eq, ownB_lst, ownB_io, ofOutIo_ok, oioB_io, oioB_lst, retV_dat, retV_newL, retV_slot, rtB_lst, ownOk_nil, ownOk_cons, ownF_un, ownF_dat, wipeB_nil, wipeB_cons, backB_nil, backB_cons, getD_some', and_tt, v_lenS, v_ixS, seqOf_sq, gdU_true, retO_some, end_ret, end_next, end_exc, ioS_io, ioS_dat, ioS_fn, ioS_exc, ioS_scr, ioOf_io, ioOf_dat, ioOf_fn, ioOf_exc, ioOf_scr, isIo_io, isIo_dat, isIo_fn, isIo_exc, isIo_scr, beq_self_eq_true, gdO_true, v_add, v_addL, v_addT, v_sub, v_mul, v_mulL, v_mulT, v_fdiv, v_mod, v_pow, v_lt, v_le, v_gt, v_ge, v_eq, v_ne, v_ixL, v_ixT, v_lenL, v_lenT, v_tupL, v_tupT, v_lstL, v_lstT, v_sum, v_sumT, v_all, v_any, v_neg, v_isN, v_notN, v_isT, v_notT, v_max, v_min, map_some', plain_one, isTys_one, List.getElem?_cons_zero, List.getElem?_cons_succ, List.set_cons_zero, List.set_cons_succ, List.cons_append, List.nil_append, List.map_cons, List.map_nil, arB, e_slcB, e_inRng, e_callV, e_callS, fnB_fn, i_wip, s_wipe, s_try, try_ret, try_exc, outR_ok, s_while, v_repr, v_revL, v_revT, v_intB, v_isF, v_notF, v_nil, cutT, cutL, cutN, cutS, cutD_list, List.replicate_succ, List.replicate_zero, h1]
end
end Fc

namespace Fc.K12
open PySem Fc
/-- _law_turned: number 90, slots 0=_law_row_here 1=_law_sign 2=_law_found 3=_law_number 4=_law_one 5=_law_other -/
def c__law_turned : Ss :=
  (.cons (.set 2 (.lst .nil))
  (.cons (.for_ (.name 3) (.of (.var 0))
  (.cons (.set 2 (.comp (.op2 .add (.var 4) (.op2 .mul (.var 1) (.var 5))) [4, 5] (.names [4, 5]) (.zip (.op2 .add (.var 2) (.lst (.cons (.cst (.int 0)) .nil))) (.op2 .add (.lst (.cons (.cst (.int 0)) .nil)) (.var 2)))))
  (.cons (.sti 2 (.fn1 .neg (.cst (.int 1))) (.op2 .add (.op2 .ix (.var 2) (.fn1 .neg (.cst (.int 1)))) (.var 3)))
  .nil)))
  (.cons (.ret (.fn1 .tuple (.var 2)))
  .nil)))
abbrev n__law_turned : Nat := 90
abbrev d__law_turned : Fd := ⟨2, 6, c__law_turned⟩
def Rq__law_turned (P : Nat → Option Fd) : Prop := P 90 = some d__law_turned
/-- _law_row: number 68, slots 0=_law_pot_here 1=_law_way 2=_law_width 3=_law_far 4=_law_at 5=_law_more 6=_law_row_here 7=_law_place -/
def c__law_row : Ss :=
  (.cons (.set 1 (.callIo 83 0 (.cons (.cst (.int 4)) .nil)))
  (.cons (.set 2 (.callIo 83 0 (.cons (.cst (.int 12)) .nil)))
  (.cons (.set 3 (.op2 .ix (.lst (.cons (.cst (.int 4)) (.cons (.cst (.int 1000)) (.cons (.op2 .pow (.cst (.int 10)) (.cst (.int 30))) (.cons (.op2 .pow (.cst (.int 10)) (.cst (.int 50))) .nil))))) (.callIo 83 0 (.cons (.cst (.int 4)) .nil))))
  (.cons (.par 4 5 (.callIo 83 0 (.cons (.op2 .add (.var 2) (.cst (.int 1))) .nil)) (.op2 .sub (.op2 .mul (.cst (.int 2)) (.callIo 83 0 (.cons (.cst (.int 2)) .nil))) (.cst (.int 1))))
  (.cons (.set 6 (.fn1 .tuple (.comp (.op2 .sub (.callIo 83 0 (.cons (.op2 .add (.op2 .mul (.cst (.int 2)) (.var 3)) (.cst (.int 1))) .nil)) (.var 3)) [7] (.name 7) (.rng1 (.op2 .add (.var 2) (.cst (.int 1)))))))
  (.cons (.ite_ (.op2 .eq (.var 1) (.cst (.int 0)))
  (.cons (.ret (.var 6))
  .nil)
  .nil)
  (.cons (.set 6 (.call 90 (.cons (.comp (.op2 .ix (.var 6) (.fn2 .min (.var 7) (.op2 .sub (.var 2) (.var 7)))) [7] (.name 7) (.rng1 (.op2 .add (.var 2) (.cst (.int 1))))) (.cons (.cst (.int 1)) .nil))))
  (.cons (.ite_ (.op2 .eq (.var 1) (.cst (.int 1)))
  (.cons (.set 6 (.op2 .add (.op2 .add (.slcU (.var 6) (.var 4)) (.tup (.cons (.op2 .add (.op2 .ix (.var 6) (.var 4)) (.var 5)) .nil))) (.slcL (.var 6) (.op2 .add (.var 4) (.cst (.int 1))))))
  .nil)
  .nil)
  (.cons (.ret (.var 6))
  .nil)))))))))
abbrev n__law_row : Nat := 68
abbrev d__law_row : Fd := ⟨1, 8, c__law_row⟩
def Rq__law_row (P : Nat → Option Fd) : Prop := P 68 = some d__law_row ∧ Rq__law_take P ∧ Rq__law_turned P
/-- _law_is_row: number 42, slots 0=_law_thing 1=_law_one -/
def c__law_is_row : Ss :=
  (.cons (.ite_ (.or_ (.not_ (.isi (.var 0) [.tuple])) (.inRng true (.fn1 .len (.var 0)) (.cst (.int 1)) (.cst (.int 13))))
  (.cons (.ret (.cst (.bool false)))
  .nil)
  .nil)
  (.cons (.ret (.fn1 .nil_ (.compIf (.var 1) [1] (.name 1) (.of (.var 0)) (.not_ (.call 92 (.cons (.var 1) .nil))))))
  .nil))
abbrev n__law_is_row : Nat := 42
abbrev d__law_is_row : Fd := ⟨1, 2, c__law_is_row⟩
def Rq__law_is_row (P : Nat → Option Fd) : Prop := P 42 = some d__law_is_row ∧ Rq__law_whole P
/-- _law_told_by: number 88, slots 0=_law_way 1=_law_thing 2=_law_e -/
def c__law_told_by : Ss :=
  (.cons (.tryRet (.cons (.ret (.callS [149, 140, 186] (.var 0) (.cons (.var 1) .nil)))
  .nil) 2 44)
  .nil)
abbrev n__law_told_by : Nat := 88
abbrev d__law_told_by : Fd := ⟨2, 3, c__law_told_by⟩
def Rq__law_told_by (P : Nat → Option Fd) : Prop := P 88 = some d__law_told_by ∧ Rq__law_kind_of P ∧ Rq_is_even P ∧ Rq_first_uneven P ∧ Rq_steps P
/-- _law_told: number 87, slots 0=_law_way 1=_law_thing 2=_law_kept 3=_law_found -/
def c__law_told : Ss :=
  (.cons (.set 2 (.fn1 .repr (.lst (.cons (.var 0) (.cons (.var 1) .nil)))))
  (.cons (.set 3 (.call 88 (.cons (.var 0) (.cons (.var 1) .nil))))
  (.cons (.ret (.ite_ (.op2 .eq (.fn1 .repr (.lst (.cons (.var 0) (.cons (.var 1) .nil)))) (.var 2)) (.var 3) (.cst (.str "changed"))))
  .nil)))
abbrev n__law_told : Nat := 87
abbrev d__law_told : Fd := ⟨2, 4, c__law_told⟩
def Rq__law_told (P : Nat → Option Fd) : Prop := P 87 = some d__law_told ∧ Rq__law_told_by P
/-- _law_due: number 24, slots 0=_law_row_here 1=_law_found 2=_law_unlike 3=_law_rise 4=_law_place 5=_law_number -/
def c__law_due : Ss :=
  (.cons (.set 1 (.call 90 (.cons (.var 0) (.cons (.fn1 .neg (.cst (.int 1))) .nil))))
  (.cons (.set 2 (.compIf (.var 4) [4, 5] (.names [4, 5]) (.enum (.var 1)) (.op2 .ne (.var 5) (.op2 .ix (.fn1 .rev (.var 1)) (.var 4)))))
  (.cons (.set 3 (.op2 .add (.lst (.cons (.op2 .ix (.var 1) (.cst (.int 0))) .nil)) (.comp (.op2 .sub (.op2 .ix (.var 1) (.var 4)) (.op2 .ix (.var 1) (.op2 .sub (.var 4) (.cst (.int 1))))) [4] (.name 4) (.rng2 (.cst (.int 1)) (.op2 .fdiv (.op2 .add (.fn1 .len (.var 0)) (.cst (.int 1))) (.cst (.int 2)))))))
  (.cons (.ret (.lst (.cons (.fn1 .nil_ (.var 2)) (.cons (.op2 .ix (.op2 .add (.var 2) (.lst (.cons (.cst .none) .nil))) (.cst (.int 0))) (.cons (.fn1 .tuple (.var 3)) .nil)))))
  .nil))))
abbrev n__law_due : Nat := 24
abbrev d__law_due : Fd := ⟨1, 6, c__law_due⟩
def Rq__law_due (P : Nat → Option Fd) : Prop := P 24 = some d__law_due ∧ Rq__law_turned P
/-- law: number 162, slots 0=_law_script 1=_law_k 2=_law_pot_here 3=_law_row_here 4=_law_thing 5=_law_due_here 6=_law_way -/
def c_law : Ss :=
  (.cons (.for_ (.name 1) (.wip [1, 2, 3, 4, 5] (.rng1 (.fn2 .max (.cst (.int 1)) (.fn2 .min (.fn1 .len (.var 0)) (.cst (.int 15))))))
  (.cons (.set 2 (.call 66 (.cons (.call 13 (.cons (.var 0) (.cons (.var 1) .nil))) .nil)))
  (.cons (.set 3 (.callIo 68 2 .nil))
  (.cons (.for_ (.name 4) (.wip [1, 2, 3, 4, 5] (.of (.lst (.cons (.var 3) (.cons (.callIo 7 2 (.cons (.var 3) .nil)) (.cons (.fn1 .rev (.var 3)) (.cons (.var 3) .nil)))))))
  (.cons (.set 5 (.op2 .mul (.lst (.cons (.cst (.str "row")) .nil)) (.cst (.int 3))))
  (.cons (.ite_ (.call 42 (.cons (.var 4) .nil))
  (.cons (.set 5 (.call 24 (.cons (.var 4) .nil)))
  .nil)
  .nil)
  (.cons (.ite_ (.not_ (.call 73 (.cons (.comp (.call 87 (.cons (.var 6) (.cons (.var 4) .nil))) [6] (.name 6) (.rng1 (.cst (.int 3)))) (.cons (.var 5) .nil))))
  (.cons (.ret (.cst (.bool false)))
  .nil)
  .nil)
  (.cons (.wipe [1, 2, 3, 4, 5])
  .nil)))))
  (.cons (.wipe [1, 2, 3, 4, 5])
  .nil)))))
  (.cons (.ret (.and_ (.op2 .eq (.call 186 (.cons (.tup (.cons (.cst (.int 1)) (.cons (.cst (.int 6)) (.cons (.cst (.int 12)) (.cons (.cst (.int 8)) .nil))))) .nil)) (.tup (.cons (.cst (.int 1)) (.cons (.cst (.int 2)) .nil)))) (.and_ (.fn1 .isN (.call 140 (.cons (.tup (.cons (.cst (.int 1)) (.cons (.cst (.int 3)) (.cons (.cst (.int 3)) .nil)))) .nil))) (.op2 .eq (.call 140 (.cons (.tup (.cons (.cst (.int 2)) (.cons (.cst (.int 2)) .nil))) .nil)) (.cst (.int 0))))))
  .nil))
abbrev n_law : Nat := 162
abbrev d_law : Fd := ⟨1, 7, c_law⟩
def Rq_law (P : Nat → Option Fd) : Prop := P 162 = some d_law ∧ Rq__law_pot P ∧ Rq__law_row P ∧ Rq__law_cell_at P ∧ Rq__law_bent_row P ∧ Rq__law_is_row P ∧ Rq_steps P ∧ Rq_first_uneven P ∧ Rq__law_due P ∧ Rq__law_same P ∧ Rq__law_told P
end Fc.K12

namespace Fc
open PySem
/-- the places where a row isn't as from behind -/
def unl (h : List Int) (k n : Nat) : List Nat := (List.range' k n).filter fun p => decide (gD h p ≠ gD h (h.length - 1 - p))
theorem unl_unev (h : List Int) : ∀ n k, unev h k n = (unl h k n).head?
  | 0, k => rfl
  | n + 1, k => by
    unfold unev unl
    rw [List.range'_succ]
    by_cases q : h.getD k 0 ≠ h.getD (h.length - 1 - k) 0
    · rw [if_pos q, List.filter_cons_of_pos (by exact decide_eq_true q)]; rfl
    · rw [if_neg q, List.filter_cons_of_neg (by rw [show decide (gD h k ≠ gD h (h.length - 1 - k)) = false from decide_eq_false q]; decide), unl_unev h n (k + 1)]; rfl
def unlG (h : List Int) : D → Option D
  | .tuple [.int p, _] => if gD h p.toNat ≠ gD h (h.length - 1 - p.toNat) then some (.int p) else none
  | _ => none
theorem enum_map (xs : List D) : ∀ k, enumD k xs = (List.range' k xs.length).map fun p => .tuple [.int (p : Nat), xs.getD (p - k) .none] := by
  induction xs with
  | nil => intro k; rfl
  | cons x xs ih =>
    intro k
    rw [List.length_cons, List.range'_succ, List.map_cons]
    show PyData.tuple [.int (k : Nat), x] :: enumD (k + 1) xs = _
    rw [ih (k + 1)]
    congr 1
    · rw [Nat.sub_self]; rfl
    · refine List.map_congr_left fun p hp => ?_
      have := List.mem_range'_1.mp hp
      rw [show p - k = (p - (k + 1)) + 1 by omega]
      rfl
theorem unl_enum (h : List Int) : (enumD 0 (h.map PyData.int)).filterMap (unlG h) = (unl h 0 h.length).map fun p => .int (p : Nat) := by
  rw [enum_map, List.length_map]
  unfold unl
  have aux : ∀ ps : List Nat, (ps.map fun p => PyData.tuple [.int (p : Nat), (h.map PyData.int).getD (p - 0) .none]).filterMap (unlG h) = (ps.filter fun p => decide (gD h p ≠ gD h (h.length - 1 - p))).map fun p => .int (p : Nat) := by
    intro ps
    induction ps with
    | nil => rfl
    | cons p ps ih =>
      have e : unlG h (.tuple [.int (p : Nat), (h.map PyData.int).getD (p - 0) .none]) = if gD h p ≠ gD h (h.length - 1 - p) then some (.int (p : Nat)) else none := rfl
      rw [List.map_cons, List.filterMap_cons, e, ih]
      by_cases q : gD h p ≠ gD h (h.length - 1 - p)
      · rw [if_pos q, List.filter_cons_of_pos (by exact decide_eq_true q)]; rfl
      · rw [if_neg q, List.filter_cons_of_neg (by rw [decide_eq_false q]; decide)]
  exact aux _
def stJ (H : List Int) : D → D
  | .int k => .int (H.getD k.toNat 0 - H.getD (k.toNat - 1) 0)
  | _ => .none
namespace K12
section
variable {P : Nat → Option Fd}
def dueL (l : List Int) : List D := [.bool (unev (trL (l.length - 1 : Nat) l) 0 l.length).isNone, optI (unev (trL (l.length - 1 : Nat) l) 0 l.length), tupI (stL (trL (l.length - 1 : Nat) l))]
theorem p_due (h : Rq__law_due P) {l : List Int} (hr : RowOk l) (hb : Bd 250 l) : Spec P 2 24 [.dat (tupI l)] (.ok (.newL (dueL l)) []) := by
  refine spec_of h.1 rfl fun K hK => ?_
  have hA : P 90 = some ⟨2, 6, c_turnedA⟩ := h.2
  have t1 := p_turnedA (q := true) (s := -1) (ns := l) hA (by decide) hr.2 hb (by decide) K (by omega)
  rw [sq_true, twL_neg] at t1
  have tl : (trL (l.length - 1 : Nat) l).length = l.length := trL_len _ _
  unfold dueL
  generalize hH : trL (l.length - 1 : Nat) l = H at *
  have l1 := hr.1
  have l2 := hr.2
  unfold tupI at t1 ⊢
  simp only [e_var, e_cst, e_gfn, e_op2, e_fn1, e_fn2, e_isi, e_and, e_or, e_not, e_ite, e_chain, e_lst, e_tup, e_emp, e_nil, e_cons, e_slcL, e_slcU, e_call, e_callIo, e_comp, e_compIf, i_of, i_rng1, i_rng2, i_enum, i_zip, s_nil, s_cons, s_set, s_unp, s_par, s_drop, s_ret, s_ite, s_for, s_raise, s_app, s_sti, t_C, t_If, t_F, look_dat, look_lst, look_dct, look_io, look_fn, look_exc, look_scr, ioCall_lst, ioCall_io, stB_lst, stB_io, seq_next, seq_ret, seq_exc, R.bind_ok, R.bind_exc, oR_some, oO_some, noX_ok, gd_true, br_true, br_false, tru_bool, intOf_int, ofO_some, ofS_some, ofOut_ok, ofOut_exc, op2_dat, op2_newL, op2_slot, opd_some, fn1_dat, fn1_newL, fn1_slot, fnd_some, fn1_scr, op2_scr', fn2_dat, peek_dat', peek_newL, peek_slot, pkB_lst, pkB_io, isi_dat, frz_dat, frz_newL, frz_newD, frz_slot, fzB_lst, frzs_nil, frzs_cons, args_nil, args_fn, args_scr, args_dat, args_newL, args_newD, args_slot, setB_eq, setO_un, setO_dat, setO_lst, setO_fn, setV_newL, setV_newD, setV_fn, setV_dat, setV_slot, setDs_nil, setDs_cons, setTg_name, setTg_names, seqOf_list, seqOf_tuple, tupOf_tuple, lstOf_lst, zipS_list, zipS_tuple, ownL_eq, ownB_lst, ownB_io, ofOutIo_ok, oioB_io, oioB_lst, retV_dat, retV_newL, retV_slot, rtB_lst, ownOk_nil, ownOk_cons, ownF_un, ownF_dat, wipeB_nil, wipeB_cons, backB_nil, backB_cons, getD_some', and_tt, v_lenS, v_ixS, seqOf_sq, gdU_true, retO_some, end_ret, end_next, end_exc, ioS_io, ioS_dat, ioS_fn, ioS_exc, ioS_scr, ioOf_io, ioOf_dat, ioOf_fn, ioOf_exc, ioOf_scr, isIo_io, isIo_dat, isIo_fn, isIo_exc, isIo_scr, beq_self_eq_true, gdO_true, v_add, v_addL, v_addT, v_sub, v_mul, v_mulL, v_mulT, v_fdiv, v_mod, v_pow, v_lt, v_le, v_gt, v_ge, v_eq, v_ne, v_ixL, v_ixT, v_lenL, v_lenT, v_tupL, v_tupT, v_lstL, v_lstT, v_sum, v_sumT, v_all, v_any, v_neg, v_isN, v_notN, v_isT, v_notT, v_max, v_min, map_some', plain_one, isTys_one, List.getElem?_cons_zero, List.getElem?_cons_succ, List.set_cons_zero, List.set_cons_succ, List.cons_append, List.nil_append, List.map_cons, List.map_nil, arB, e_slcB, e_inRng, e_callV, e_callS, fnB_fn, i_wip, s_wipe, s_try, try_ret, try_exc, outR_ok, s_while, v_repr, v_revL, v_revT, v_intB, v_isF, v_notF, v_nil, cutT, cutL, cutN, cutS, cutD_list, List.replicate_succ, List.replicate_zero, c__law_due, t1]
  generalize hM : loopC _ _ _ _ = M
  have := fm_eq hM (unlG H) fun x hx => by
    rw [enum_map, List.length_map] at hx
    obtain ⟨p, hp, rfl⟩ := List.mem_map.mp hx
    have hp := List.mem_range'_1.mp hp
    rw [Nat.sub_zero]
    have hp2 : p < H.length := by omega
    have e1 : (H.map PyData.int).getD p .none = .int (gD H p) := by
      unfold gD List.getD
      rw [List.getElem?_map, List.getElem?_eq_getElem hp2]; rfl
    have e2 : L2.atI (H.map PyData.int).reverse ((p : Nat) : Int) = some (.int (gD H (H.length - 1 - p))) := by
      rw [atI_nat, List.getElem?_reverse (by rw [List.length_map]; exact hp2), List.length_map, List.getElem?_map, List.getElem?_eq_getElem (show H.length - 1 - p < H.length by omega)]
      unfold gD List.getD
      rw [List.getElem?_eq_getElem (show H.length - 1 - p < H.length by omega)]; rfl
    rw [e1]
    have e3 : unlG H (.tuple [.int (p : Nat), .int (gD H p)]) = if gD H p ≠ gD H (H.length - 1 - p) then some (.int (p : Nat)) else none := rfl
    rw [e3]
    by_cases q : gD H p = gD H (H.length - 1 - p)
    · rw [if_neg (fun z => z q)]
      simp only [e_var, e_cst, e_gfn, e_op2, e_fn1, e_fn2, e_isi, e_and, e_or, e_not, e_ite, e_chain, e_lst, e_tup, e_emp, e_nil, e_cons, e_slcL, e_slcU, e_call, e_callIo, e_comp, e_compIf, i_of, i_rng1, i_rng2, i_enum, i_zip, s_nil, s_cons, s_set, s_unp, s_par, s_drop, s_ret, s_ite, s_for, s_raise, s_app, s_sti, t_C, t_If, t_F, look_dat, look_lst, look_dct, look_io, look_fn, look_exc, look_scr, ioCall_lst, ioCall_io, stB_lst, stB_io, seq_next, seq_ret, seq_exc, R.bind_ok, R.bind_exc, oR_some, oO_some, noX_ok, gd_true, br_true, br_false, tru_bool, intOf_int, ofO_some, ofS_some, ofOut_ok, ofOut_exc, op2_dat, op2_newL, op2_slot, opd_some, fn1_dat, fn1_newL, fn1_slot, fnd_some, fn1_scr, op2_scr', fn2_dat, peek_dat', peek_newL, peek_slot, pkB_lst, pkB_io, isi_dat, frz_dat, frz_newL, frz_newD, frz_slot, fzB_lst, frzs_nil, frzs_cons, args_nil, args_fn, args_scr, args_dat, args_newL, args_newD, args_slot, setB_eq, setO_un, setO_dat, setO_lst, setO_fn, setV_newL, setV_newD, setV_fn, setV_dat, setV_slot, setDs_nil, setDs_cons, setTg_name, setTg_names, seqOf_list, seqOf_tuple, tupOf_tuple, lstOf_lst, zipS_list, zipS_tuple, ownL_eq, ownB_lst, ownB_io, ofOutIo_ok, oioB_io, oioB_lst, retV_dat, retV_newL, retV_slot, rtB_lst, ownOk_nil, ownOk_cons, ownF_un, ownF_dat, wipeB_nil, wipeB_cons, backB_nil, backB_cons, getD_some', and_tt, v_lenS, v_ixS, seqOf_sq, gdU_true, retO_some, end_ret, end_next, end_exc, ioS_io, ioS_dat, ioS_fn, ioS_exc, ioS_scr, ioOf_io, ioOf_dat, ioOf_fn, ioOf_exc, ioOf_scr, isIo_io, isIo_dat, isIo_fn, isIo_exc, isIo_scr, beq_self_eq_true, gdO_true, v_add, v_addL, v_addT, v_sub, v_mul, v_mulL, v_mulT, v_fdiv, v_mod, v_pow, v_lt, v_le, v_gt, v_ge, v_eq, v_ne, v_ixL, v_ixT, v_lenL, v_lenT, v_tupL, v_tupT, v_lstL, v_lstT, v_sum, v_sumT, v_all, v_any, v_neg, v_isN, v_notN, v_isT, v_notT, v_max, v_min, map_some', plain_one, isTys_one, List.getElem?_cons_zero, List.getElem?_cons_succ, List.set_cons_zero, List.set_cons_succ, List.cons_append, List.nil_append, List.map_cons, List.map_nil, arB, e_slcB, e_inRng, e_callV, e_callS, fnB_fn, i_wip, s_wipe, s_try, try_ret, try_exc, outR_ok, s_while, v_repr, v_revL, v_revT, v_intB, v_isF, v_notF, v_nil, cutT, cutL, cutN, cutS, cutD_list, List.replicate_succ, List.replicate_zero, e2, v_ne, fit_int, Bool.and_self, eqv_int, q, decide_true, Bool.not_true]
    · rw [if_pos q]
      simp only [e_var, e_cst, e_gfn, e_op2, e_fn1, e_fn2, e_isi, e_and, e_or, e_not, e_ite, e_chain, e_lst, e_tup, e_emp, e_nil, e_cons, e_slcL, e_slcU, e_call, e_callIo, e_comp, e_compIf, i_of, i_rng1, i_rng2, i_enum, i_zip, s_nil, s_cons, s_set, s_unp, s_par, s_drop, s_ret, s_ite, s_for, s_raise, s_app, s_sti, t_C, t_If, t_F, look_dat, look_lst, look_dct, look_io, look_fn, look_exc, look_scr, ioCall_lst, ioCall_io, stB_lst, stB_io, seq_next, seq_ret, seq_exc, R.bind_ok, R.bind_exc, oR_some, oO_some, noX_ok, gd_true, br_true, br_false, tru_bool, intOf_int, ofO_some, ofS_some, ofOut_ok, ofOut_exc, op2_dat, op2_newL, op2_slot, opd_some, fn1_dat, fn1_newL, fn1_slot, fnd_some, fn1_scr, op2_scr', fn2_dat, peek_dat', peek_newL, peek_slot, pkB_lst, pkB_io, isi_dat, frz_dat, frz_newL, frz_newD, frz_slot, fzB_lst, frzs_nil, frzs_cons, args_nil, args_fn, args_scr, args_dat, args_newL, args_newD, args_slot, setB_eq, setO_un, setO_dat, setO_lst, setO_fn, setV_newL, setV_newD, setV_fn, setV_dat, setV_slot, setDs_nil, setDs_cons, setTg_name, setTg_names, seqOf_list, seqOf_tuple, tupOf_tuple, lstOf_lst, zipS_list, zipS_tuple, ownL_eq, ownB_lst, ownB_io, ofOutIo_ok, oioB_io, oioB_lst, retV_dat, retV_newL, retV_slot, rtB_lst, ownOk_nil, ownOk_cons, ownF_un, ownF_dat, wipeB_nil, wipeB_cons, backB_nil, backB_cons, getD_some', and_tt, v_lenS, v_ixS, seqOf_sq, gdU_true, retO_some, end_ret, end_next, end_exc, ioS_io, ioS_dat, ioS_fn, ioS_exc, ioS_scr, ioOf_io, ioOf_dat, ioOf_fn, ioOf_exc, ioOf_scr, isIo_io, isIo_dat, isIo_fn, isIo_exc, isIo_scr, beq_self_eq_true, gdO_true, v_add, v_addL, v_addT, v_sub, v_mul, v_mulL, v_mulT, v_fdiv, v_mod, v_pow, v_lt, v_le, v_gt, v_ge, v_eq, v_ne, v_ixL, v_ixT, v_lenL, v_lenT, v_tupL, v_tupT, v_lstL, v_lstT, v_sum, v_sumT, v_all, v_any, v_neg, v_isN, v_notN, v_isT, v_notT, v_max, v_min, map_some', plain_one, isTys_one, List.getElem?_cons_zero, List.getElem?_cons_succ, List.set_cons_zero, List.set_cons_succ, List.cons_append, List.nil_append, List.map_cons, List.map_nil, arB, e_slcB, e_inRng, e_callV, e_callS, fnB_fn, i_wip, s_wipe, s_try, try_ret, try_exc, outR_ok, s_while, v_repr, v_revL, v_revT, v_intB, v_isF, v_notF, v_nil, cutT, cutL, cutN, cutS, cutD_list, List.replicate_succ, List.replicate_zero, e2, v_ne, fit_int, Bool.and_self, eqv_int, decide_eq_false q, Bool.not_false]
  subst this
  rw [unl_enum]
  have a0 : L2.atI (H.map PyData.int) 0 = some (.int (H.getD 0 0)) := by
    have := atI_map' (ns := H) (i := 0) (by omega)
    exact this
  have hr2 : (rngOk 1 && rngOk (((l.length : Nat) : Int) + 1 / 2)) = true := by rw [show rngOk 1 = true from rfl, rngOk_of' (by omega) (by omega)]; rfl
  have hr3 : (rngOk 1 && rngOk ((((l.length : Nat) : Int) + 1) / 2)) = true := by rw [show rngOk 1 = true from rfl, rngOk_of' (by omega) (by omega)]; rfl
  have en : (((l.length : Nat) : Int) + 1) / 2 - 1 = (((H.length - 1) / 2 : Nat) : Int) := by omega
  simp only [e_var, e_cst, e_gfn, e_op2, e_fn1, e_fn2, e_isi, e_and, e_or, e_not, e_ite, e_chain, e_lst, e_tup, e_emp, e_nil, e_cons, e_slcL, e_slcU, e_call, e_callIo, e_comp, e_compIf, i_of, i_rng1, i_rng2, i_enum, i_zip, s_nil, s_cons, s_set, s_unp, s_par, s_drop, s_ret, s_ite, s_for, s_raise, s_app, s_sti, t_C, t_If, t_F, look_dat, look_lst, look_dct, look_io, look_fn, look_exc, look_scr, ioCall_lst, ioCall_io, stB_lst, stB_io, seq_next, seq_ret, seq_exc, R.bind_ok, R.bind_exc, oR_some, oO_some, noX_ok, gd_true, br_true, br_false, tru_bool, intOf_int, ofO_some, ofS_some, ofOut_ok, ofOut_exc, op2_dat, op2_newL, op2_slot, opd_some, fn1_dat, fn1_newL, fn1_slot, fnd_some, fn1_scr, op2_scr', fn2_dat, peek_dat', peek_newL, peek_slot, pkB_lst, pkB_io, isi_dat, frz_dat, frz_newL, frz_newD, frz_slot, fzB_lst, frzs_nil, frzs_cons, args_nil, args_fn, args_scr, args_dat, args_newL, args_newD, args_slot, setB_eq, setO_un, setO_dat, setO_lst, setO_fn, setV_newL, setV_newD, setV_fn, setV_dat, setV_slot, setDs_nil, setDs_cons, setTg_name, setTg_names, seqOf_list, seqOf_tuple, tupOf_tuple, lstOf_lst, zipS_list, zipS_tuple, ownL_eq, ownB_lst, ownB_io, ofOutIo_ok, oioB_io, oioB_lst, retV_dat, retV_newL, retV_slot, rtB_lst, ownOk_nil, ownOk_cons, ownF_un, ownF_dat, wipeB_nil, wipeB_cons, backB_nil, backB_cons, getD_some', and_tt, v_lenS, v_ixS, seqOf_sq, gdU_true, retO_some, end_ret, end_next, end_exc, ioS_io, ioS_dat, ioS_fn, ioS_exc, ioS_scr, ioOf_io, ioOf_dat, ioOf_fn, ioOf_exc, ioOf_scr, isIo_io, isIo_dat, isIo_fn, isIo_exc, isIo_scr, beq_self_eq_true, gdO_true, v_add, v_addL, v_addT, v_sub, v_mul, v_mulL, v_mulT, v_fdiv, v_mod, v_pow, v_lt, v_le, v_gt, v_ge, v_eq, v_ne, v_ixL, v_ixT, v_lenL, v_lenT, v_tupL, v_tupT, v_lstL, v_lstT, v_sum, v_sumT, v_all, v_any, v_neg, v_isN, v_notN, v_isT, v_notT, v_max, v_min, map_some', plain_one, isTys_one, List.getElem?_cons_zero, List.getElem?_cons_succ, List.set_cons_zero, List.set_cons_succ, List.cons_append, List.nil_append, List.map_cons, List.map_nil, arB, e_slcB, e_inRng, e_callV, e_callS, fnB_fn, i_wip, s_wipe, s_try, try_ret, try_exc, outR_ok, s_while, v_repr, v_revL, v_revT, v_intB, v_isF, v_notF, v_nil, cutT, cutL, cutN, cutS, cutD_list, List.replicate_succ, List.replicate_zero, a0, List.length_map, divOk_two, hr3, en, Int.toNat_natCast, List.length_cons, List.length_nil, show lenOk (0 + 1) = true from rfl]
  generalize hM : loopC _ _ _ _ = M
  have := comp_eq hM (stJ H) fun d hd => by
    obtain ⟨j, rfl, hj⟩ := iota_mem hd
    have e1 : (1 : Int) + (j : Nat) = ((j + 1 : Nat) : Int) := by omega
    have e2 : ((j + 1 : Nat) : Int) - 1 = ((j : Nat) : Int) := by omega
    rw [e1]
    have e3 : stJ H (.int ((j + 1 : Nat) : Int)) = .int (H.getD (j + 1) 0 - H.getD j 0) := by
      show PyData.int (H.getD (((j + 1 : Nat) : Int)).toNat 0 - H.getD ((((j + 1 : Nat) : Int)).toNat - 1) 0) = _
      rw [Int.toNat_natCast]; rfl
    rw [e3]
    simp only [e_var, e_cst, e_gfn, e_op2, e_fn1, e_fn2, e_isi, e_and, e_or, e_not, e_ite, e_chain, e_lst, e_tup, e_emp, e_nil, e_cons, e_slcL, e_slcU, e_call, e_callIo, e_comp, e_compIf, i_of, i_rng1, i_rng2, i_enum, i_zip, s_nil, s_cons, s_set, s_unp, s_par, s_drop, s_ret, s_ite, s_for, s_raise, s_app, s_sti, t_C, t_If, t_F, look_dat, look_lst, look_dct, look_io, look_fn, look_exc, look_scr, ioCall_lst, ioCall_io, stB_lst, stB_io, seq_next, seq_ret, seq_exc, R.bind_ok, R.bind_exc, oR_some, oO_some, noX_ok, gd_true, br_true, br_false, tru_bool, intOf_int, ofO_some, ofS_some, ofOut_ok, ofOut_exc, op2_dat, op2_newL, op2_slot, opd_some, fn1_dat, fn1_newL, fn1_slot, fnd_some, fn1_scr, op2_scr', fn2_dat, peek_dat', peek_newL, peek_slot, pkB_lst, pkB_io, isi_dat, frz_dat, frz_newL, frz_newD, frz_slot, fzB_lst, frzs_nil, frzs_cons, args_nil, args_fn, args_scr, args_dat, args_newL, args_newD, args_slot, setB_eq, setO_un, setO_dat, setO_lst, setO_fn, setV_newL, setV_newD, setV_fn, setV_dat, setV_slot, setDs_nil, setDs_cons, setTg_name, setTg_names, seqOf_list, seqOf_tuple, tupOf_tuple, lstOf_lst, zipS_list, zipS_tuple, ownL_eq, ownB_lst, ownB_io, ofOutIo_ok, oioB_io, oioB_lst, retV_dat, retV_newL, retV_slot, rtB_lst, ownOk_nil, ownOk_cons, ownF_un, ownF_dat, wipeB_nil, wipeB_cons, backB_nil, backB_cons, getD_some', and_tt, v_lenS, v_ixS, seqOf_sq, gdU_true, retO_some, end_ret, end_next, end_exc, ioS_io, ioS_dat, ioS_fn, ioS_exc, ioS_scr, ioOf_io, ioOf_dat, ioOf_fn, ioOf_exc, ioOf_scr, isIo_io, isIo_dat, isIo_fn, isIo_exc, isIo_scr, beq_self_eq_true, gdO_true, v_add, v_addL, v_addT, v_sub, v_mul, v_mulL, v_mulT, v_fdiv, v_mod, v_pow, v_lt, v_le, v_gt, v_ge, v_eq, v_ne, v_ixL, v_ixT, v_lenL, v_lenT, v_tupL, v_tupT, v_lstL, v_lstT, v_sum, v_sumT, v_all, v_any, v_neg, v_isN, v_notN, v_isT, v_notT, v_max, v_min, map_some', plain_one, isTys_one, List.getElem?_cons_zero, List.getElem?_cons_succ, List.set_cons_zero, List.set_cons_succ, List.cons_append, List.nil_append, List.map_cons, List.map_nil, arB, e_slcB, e_inRng, e_callV, e_callS, fnB_fn, i_wip, s_wipe, s_try, try_ret, try_exc, outR_ok, s_while, v_repr, v_revL, v_revT, v_intB, v_isF, v_notF, v_nil, cutT, cutL, cutN, cutS, cutD_list, List.replicate_succ, List.replicate_zero, atI_map' (show j + 1 < H.length by omega), e2, atI_map' (show j < H.length by omega)]
  subst this
  have em : (iotaI 1 ((H.length - 1) / 2)).map (stJ H) = ((List.range ((H.length - 1) / 2)).map fun j => H.getD (j + 1) 0 - H.getD j 0).map .int := by
    rw [List.map_map]
    exact iota_map fun i hi => by
      show PyData.int (H.getD ((1 + (i : Int))).toNat 0 - H.getD ((1 + (i : Int)).toNat - 1) 0) = _
      rw [show (1 + (i : Int)).toNat = i + 1 by omega]; rfl
  rw [em]
  have ul : (unl H 0 H.length).length ≤ 12 := by
    have := List.length_filter_le (fun p => decide (gD H p ≠ gD H (H.length - 1 - p))) (List.range' 0 H.length)
    rw [List.length_range'] at this
    unfold unl
    omega
  have u1 : ((unl H 0 H.length).map fun p => PyData.int (p : Nat)).isEmpty = (unev H 0 l.length).isNone := by
    rw [← tl, unl_unev]
    cases unl H 0 H.length <;> rfl
  have u2 : L2.atI (((unl H 0 H.length).map fun p => PyData.int (p : Nat)) ++ [.none]) 0 = some (optI (unev H 0 l.length)) := by
    rw [← tl, unl_unev, show (0 : Int) = ((0 : Nat) : Int) from rfl, atI_nat]
    cases unl H 0 H.length <;> rfl
  simp only [e_var, e_cst, e_gfn, e_op2, e_fn1, e_fn2, e_isi, e_and, e_or, e_not, e_ite, e_chain, e_lst, e_tup, e_emp, e_nil, e_cons, e_slcL, e_slcU, e_call, e_callIo, e_comp, e_compIf, i_of, i_rng1, i_rng2, i_enum, i_zip, s_nil, s_cons, s_set, s_unp, s_par, s_drop, s_ret, s_ite, s_for, s_raise, s_app, s_sti, t_C, t_If, t_F, look_dat, look_lst, look_dct, look_io, look_fn, look_exc, look_scr, ioCall_lst, ioCall_io, stB_lst, stB_io, seq_next, seq_ret, seq_exc, R.bind_ok, R.bind_exc, oR_some, oO_some, noX_ok, gd_true, br_true, br_false, tru_bool, intOf_int, ofO_some, ofS_some, ofOut_ok, ofOut_exc, op2_dat, op2_newL, op2_slot, opd_some, fn1_dat, fn1_newL, fn1_slot, fnd_some, fn1_scr, op2_scr', fn2_dat, peek_dat', peek_newL, peek_slot, pkB_lst, pkB_io, isi_dat, frz_dat, frz_newL, frz_newD, frz_slot, fzB_lst, frzs_nil, frzs_cons, args_nil, args_fn, args_scr, args_dat, args_newL, args_newD, args_slot, setB_eq, setO_un, setO_dat, setO_lst, setO_fn, setV_newL, setV_newD, setV_fn, setV_dat, setV_slot, setDs_nil, setDs_cons, setTg_name, setTg_names, seqOf_list, seqOf_tuple, tupOf_tuple, lstOf_lst, zipS_list, zipS_tuple, ownL_eq, ownB_lst, ownB_io, ofOutIo_ok, oioB_io, oioB_lst, retV_dat, retV_newL, retV_slot, rtB_lst, ownOk_nil, ownOk_cons, ownF_un, ownF_dat, wipeB_nil, wipeB_cons, backB_nil, backB_cons, getD_some', and_tt, v_lenS, v_ixS, seqOf_sq, gdU_true, retO_some, end_ret, end_next, end_exc, ioS_io, ioS_dat, ioS_fn, ioS_exc, ioS_scr, ioOf_io, ioOf_dat, ioOf_fn, ioOf_exc, ioOf_scr, isIo_io, isIo_dat, isIo_fn, isIo_exc, isIo_scr, beq_self_eq_true, gdO_true, v_add, v_addL, v_addT, v_sub, v_mul, v_mulL, v_mulT, v_fdiv, v_mod, v_pow, v_lt, v_le, v_gt, v_ge, v_eq, v_ne, v_ixL, v_ixT, v_lenL, v_lenT, v_tupL, v_tupT, v_lstL, v_lstT, v_sum, v_sumT, v_all, v_any, v_neg, v_isN, v_notN, v_isT, v_notT, v_max, v_min, map_some', plain_one, isTys_one, List.getElem?_cons_zero, List.getElem?_cons_succ, List.set_cons_zero, List.set_cons_succ, List.cons_append, List.nil_append, List.map_cons, List.map_nil, arB, e_slcB, e_inRng, e_callV, e_callS, fnB_fn, i_wip, s_wipe, s_try, try_ret, try_exc, outR_ok, s_while, v_repr, v_revL, v_revT, v_intB, v_isF, v_notF, v_nil, cutT, cutL, cutN, cutS, cutD_list, List.replicate_succ, List.replicate_zero, u1, u2, List.length_map, List.length_cons, List.length_nil, List.length_range, List.length_append, lenOk_of' (show (unl H 0 H.length).length + (0 + 1) ≤ 1000000 by omega), lenOk_of' (show 0 + 1 + (H.length - 1) / 2 ≤ 1000000 by omega), show lenOk (0 + 1 + 1 + 1) = true from rfl, u1]
  rfl
theorem told_ref (h : Rq__law_told P) {d : D} (hd : rowD d = false) (hs : Sh 6 1000000 d) (k : Nat) (hk : k < 3) : Spec P 7 87 [.dat (.int (k : Nat)), .dat d] (.ok (.dat (.str "row")) []) := by
  refine p_toldA (nT := 0) (nB := 0) h.1 (L := 6) ?_ ((sh_int (i := (k : Nat)) (b := 2) (by omega) (by decide)).mono (by decide) (by decide)) hs
  refine spec_of h.2.1 rfl fun K hK => ?_
  have e1 := row_ref h.2.2.2.1.1 h.2.2.2.1.2.1 hd K hK
  have e2 := row_ref h.2.2.2.2.1.1 h.2.2.2.2.1.2.1 hd K hK
  have e3 := row_ref h.2.2.2.2.2.1 h.2.2.2.2.2.2.1 hd K hK
  have e4 := p_kind h.2.2.1 (c := 7) (by decide) K (by omega)
  rw [show wordOf 7 = "row" from rfl] at e4
  match k, hk with
  | 0, _ => simp only [e_var, e_cst, e_gfn, e_op2, e_fn1, e_fn2, e_isi, e_and, e_or, e_not, e_ite, e_chain, e_lst, e_tup, e_emp, e_nil, e_cons, e_slcL, e_slcU, e_call, e_callIo, e_comp, e_compIf, i_of, i_rng1, i_rng2, i_enum, i_zip, s_nil, s_cons, s_set, s_unp, s_par, s_drop, s_ret, s_ite, s_for, s_raise, s_app, s_sti, t_C, t_If, t_F, look_dat, look_lst, look_dct, look_io, look_fn, look_exc, look_scr, ioCall_lst, ioCall_io, stB_lst, stB_io, seq_next, seq_ret, seq_exc, R.bind_ok, R.bind_exc, oR_some, oO_some, noX_ok, gd_true, br_true, br_false, tru_bool, intOf_int, ofO_some, ofS_some, ofOut_ok, ofOut_exc, op2_dat, op2_newL, op2_slot, opd_some, fn1_dat, fn1_newL, fn1_slot, fnd_some, fn1_scr, op2_scr', fn2_dat, peek_dat', peek_newL, peek_slot, pkB_lst, pkB_io, isi_dat, frz_dat, frz_newL, frz_newD, frz_slot, fzB_lst, frzs_nil, frzs_cons, args_nil, args_fn, args_scr, args_dat, args_newL, args_newD, args_slot, setB_eq, setO_un, setO_dat, setO_lst, setO_fn, setV_newL, setV_newD, setV_fn, setV_dat, setV_slot, setDs_nil, setDs_cons, setTg_name, setTg_names, seqOf_list, seqOf_tuple, tupOf_tuple, lstOf_lst, zipS_list, zipS_tuple, ownL_eq, ownB_lst, ownB_io, ofOutIo_ok, oioB_io, oioB_lst, retV_dat, retV_newL, retV_slot, rtB_lst, ownOk_nil, ownOk_cons, ownF_un, ownF_dat, wipeB_nil, wipeB_cons, backB_nil, backB_cons, getD_some', and_tt, v_lenS, v_ixS, seqOf_sq, gdU_true, retO_some, end_ret, end_next, end_exc, ioS_io, ioS_dat, ioS_fn, ioS_exc, ioS_scr, ioOf_io, ioOf_dat, ioOf_fn, ioOf_exc, ioOf_scr, isIo_io, isIo_dat, isIo_fn, isIo_exc, isIo_scr, beq_self_eq_true, gdO_true, v_add, v_addL, v_addT, v_sub, v_mul, v_mulL, v_mulT, v_fdiv, v_mod, v_pow, v_lt, v_le, v_gt, v_ge, v_eq, v_ne, v_ixL, v_ixT, v_lenL, v_lenT, v_tupL, v_tupT, v_lstL, v_lstT, v_sum, v_sumT, v_all, v_any, v_neg, v_isN, v_notN, v_isT, v_notT, v_max, v_min, map_some', plain_one, isTys_one, List.getElem?_cons_zero, List.getElem?_cons_succ, List.set_cons_zero, List.set_cons_succ, List.cons_append, List.nil_append, List.map_cons, List.map_nil, arB, e_slcB, e_inRng, e_callV, e_callS, fnB_fn, i_wip, s_wipe, s_try, try_ret, try_exc, outR_ok, s_while, v_repr, v_revL, v_revT, v_intB, v_isF, v_notF, v_nil, cutT, cutL, cutN, cutS, cutD_list, List.replicate_succ, List.replicate_zero, c__law_told_by, show L2.atI [149, 140, 186] ((0 : Nat) : Int) = some 149 from rfl, e1, e4, List.length_cons, List.length_nil, show (decide (7 < 17) && decide (2 < 0 + 1 + 1 + 1)) = true from rfl]
  | 1, _ => simp only [e_var, e_cst, e_gfn, e_op2, e_fn1, e_fn2, e_isi, e_and, e_or, e_not, e_ite, e_chain, e_lst, e_tup, e_emp, e_nil, e_cons, e_slcL, e_slcU, e_call, e_callIo, e_comp, e_compIf, i_of, i_rng1, i_rng2, i_enum, i_zip, s_nil, s_cons, s_set, s_unp, s_par, s_drop, s_ret, s_ite, s_for, s_raise, s_app, s_sti, t_C, t_If, t_F, look_dat, look_lst, look_dct, look_io, look_fn, look_exc, look_scr, ioCall_lst, ioCall_io, stB_lst, stB_io, seq_next, seq_ret, seq_exc, R.bind_ok, R.bind_exc, oR_some, oO_some, noX_ok, gd_true, br_true, br_false, tru_bool, intOf_int, ofO_some, ofS_some, ofOut_ok, ofOut_exc, op2_dat, op2_newL, op2_slot, opd_some, fn1_dat, fn1_newL, fn1_slot, fnd_some, fn1_scr, op2_scr', fn2_dat, peek_dat', peek_newL, peek_slot, pkB_lst, pkB_io, isi_dat, frz_dat, frz_newL, frz_newD, frz_slot, fzB_lst, frzs_nil, frzs_cons, args_nil, args_fn, args_scr, args_dat, args_newL, args_newD, args_slot, setB_eq, setO_un, setO_dat, setO_lst, setO_fn, setV_newL, setV_newD, setV_fn, setV_dat, setV_slot, setDs_nil, setDs_cons, setTg_name, setTg_names, seqOf_list, seqOf_tuple, tupOf_tuple, lstOf_lst, zipS_list, zipS_tuple, ownL_eq, ownB_lst, ownB_io, ofOutIo_ok, oioB_io, oioB_lst, retV_dat, retV_newL, retV_slot, rtB_lst, ownOk_nil, ownOk_cons, ownF_un, ownF_dat, wipeB_nil, wipeB_cons, backB_nil, backB_cons, getD_some', and_tt, v_lenS, v_ixS, seqOf_sq, gdU_true, retO_some, end_ret, end_next, end_exc, ioS_io, ioS_dat, ioS_fn, ioS_exc, ioS_scr, ioOf_io, ioOf_dat, ioOf_fn, ioOf_exc, ioOf_scr, isIo_io, isIo_dat, isIo_fn, isIo_exc, isIo_scr, beq_self_eq_true, gdO_true, v_add, v_addL, v_addT, v_sub, v_mul, v_mulL, v_mulT, v_fdiv, v_mod, v_pow, v_lt, v_le, v_gt, v_ge, v_eq, v_ne, v_ixL, v_ixT, v_lenL, v_lenT, v_tupL, v_tupT, v_lstL, v_lstT, v_sum, v_sumT, v_all, v_any, v_neg, v_isN, v_notN, v_isT, v_notT, v_max, v_min, map_some', plain_one, isTys_one, List.getElem?_cons_zero, List.getElem?_cons_succ, List.set_cons_zero, List.set_cons_succ, List.cons_append, List.nil_append, List.map_cons, List.map_nil, arB, e_slcB, e_inRng, e_callV, e_callS, fnB_fn, i_wip, s_wipe, s_try, try_ret, try_exc, outR_ok, s_while, v_repr, v_revL, v_revT, v_intB, v_isF, v_notF, v_nil, cutT, cutL, cutN, cutS, cutD_list, List.replicate_succ, List.replicate_zero, c__law_told_by, show L2.atI [149, 140, 186] ((1 : Nat) : Int) = some 140 from rfl, e2, e4, List.length_cons, List.length_nil, show (decide (7 < 17) && decide (2 < 0 + 1 + 1 + 1)) = true from rfl]
  | 2, _ => simp only [e_var, e_cst, e_gfn, e_op2, e_fn1, e_fn2, e_isi, e_and, e_or, e_not, e_ite, e_chain, e_lst, e_tup, e_emp, e_nil, e_cons, e_slcL, e_slcU, e_call, e_callIo, e_comp, e_compIf, i_of, i_rng1, i_rng2, i_enum, i_zip, s_nil, s_cons, s_set, s_unp, s_par, s_drop, s_ret, s_ite, s_for, s_raise, s_app, s_sti, t_C, t_If, t_F, look_dat, look_lst, look_dct, look_io, look_fn, look_exc, look_scr, ioCall_lst, ioCall_io, stB_lst, stB_io, seq_next, seq_ret, seq_exc, R.bind_ok, R.bind_exc, oR_some, oO_some, noX_ok, gd_true, br_true, br_false, tru_bool, intOf_int, ofO_some, ofS_some, ofOut_ok, ofOut_exc, op2_dat, op2_newL, op2_slot, opd_some, fn1_dat, fn1_newL, fn1_slot, fnd_some, fn1_scr, op2_scr', fn2_dat, peek_dat', peek_newL, peek_slot, pkB_lst, pkB_io, isi_dat, frz_dat, frz_newL, frz_newD, frz_slot, fzB_lst, frzs_nil, frzs_cons, args_nil, args_fn, args_scr, args_dat, args_newL, args_newD, args_slot, setB_eq, setO_un, setO_dat, setO_lst, setO_fn, setV_newL, setV_newD, setV_fn, setV_dat, setV_slot, setDs_nil, setDs_cons, setTg_name, setTg_names, seqOf_list, seqOf_tuple, tupOf_tuple, lstOf_lst, zipS_list, zipS_tuple, ownL_eq, ownB_lst, ownB_io, ofOutIo_ok, oioB_io, oioB_lst, retV_dat, retV_newL, retV_slot, rtB_lst, ownOk_nil, ownOk_cons, ownF_un, ownF_dat, wipeB_nil, wipeB_cons, backB_nil, backB_cons, getD_some', and_tt, v_lenS, v_ixS, seqOf_sq, gdU_true, retO_some, end_ret, end_next, end_exc, ioS_io, ioS_dat, ioS_fn, ioS_exc, ioS_scr, ioOf_io, ioOf_dat, ioOf_fn, ioOf_exc, ioOf_scr, isIo_io, isIo_dat, isIo_fn, isIo_exc, isIo_scr, beq_self_eq_true, gdO_true, v_add, v_addL, v_addT, v_sub, v_mul, v_mulL, v_mulT, v_fdiv, v_mod, v_pow, v_lt, v_le, v_gt, v_ge, v_eq, v_ne, v_ixL, v_ixT, v_lenL, v_lenT, v_tupL, v_tupT, v_lstL, v_lstT, v_sum, v_sumT, v_all, v_any, v_neg, v_isN, v_notN, v_isT, v_notT, v_max, v_min, map_some', plain_one, isTys_one, List.getElem?_cons_zero, List.getElem?_cons_succ, List.set_cons_zero, List.set_cons_succ, List.cons_append, List.nil_append, List.map_cons, List.map_nil, arB, e_slcB, e_inRng, e_callV, e_callS, fnB_fn, i_wip, s_wipe, s_try, try_ret, try_exc, outR_ok, s_while, v_repr, v_revL, v_revT, v_intB, v_isF, v_notF, v_nil, cutT, cutL, cutN, cutS, cutD_list, List.replicate_succ, List.replicate_zero, c__law_told_by, show L2.atI [149, 140, 186] ((2 : Nat) : Int) = some 186 from rfl, e3, e4, List.length_cons, List.length_nil, show (decide (7 < 17) && decide (2 < 0 + 1 + 1 + 1)) = true from rfl]
theorem told_ok (h : Rq__law_told P) {ns : List Int} (hr : RowOk ns) (hb : Bd 250 ns) (k : Nat) (hk : k < 3) : Spec P 7 87 [.dat (.int (k : Nat)), .dat (tupI ns)] (.ok (.dat ((dueL ns).getD k .none)) []) := by
  refine p_toldA (nT := 0) (nB := 0) h.1 (L := 6) ?_ ((sh_int (i := (k : Nat)) (b := 2) (by omega) (by decide)).mono (by decide) (by decide)) ((sh_tupI hb (by decide) (by have := hr.2; omega)).mono (by decide) (by decide))
  refine spec_of h.2.1 rfl fun K hK => ?_
  have e1 := q_is_even h.2.2.2.1 hr hb (by decide) K hK
  have e2 := q_first_uneven h.2.2.2.2.1 hr hb (by decide) K hK
  have e3 := q_steps h.2.2.2.2.2 hr hb (by decide) K hK
  match k, hk with
  | 0, _ => simp only [e_var, e_cst, e_gfn, e_op2, e_fn1, e_fn2, e_isi, e_and, e_or, e_not, e_ite, e_chain, e_lst, e_tup, e_emp, e_nil, e_cons, e_slcL, e_slcU, e_call, e_callIo, e_comp, e_compIf, i_of, i_rng1, i_rng2, i_enum, i_zip, s_nil, s_cons, s_set, s_unp, s_par, s_drop, s_ret, s_ite, s_for, s_raise, s_app, s_sti, t_C, t_If, t_F, look_dat, look_lst, look_dct, look_io, look_fn, look_exc, look_scr, ioCall_lst, ioCall_io, stB_lst, stB_io, seq_next, seq_ret, seq_exc, R.bind_ok, R.bind_exc, oR_some, oO_some, noX_ok, gd_true, br_true, br_false, tru_bool, intOf_int, ofO_some, ofS_some, ofOut_ok, ofOut_exc, op2_dat, op2_newL, op2_slot, opd_some, fn1_dat, fn1_newL, fn1_slot, fnd_some, fn1_scr, op2_scr', fn2_dat, peek_dat', peek_newL, peek_slot, pkB_lst, pkB_io, isi_dat, frz_dat, frz_newL, frz_newD, frz_slot, fzB_lst, frzs_nil, frzs_cons, args_nil, args_fn, args_scr, args_dat, args_newL, args_newD, args_slot, setB_eq, setO_un, setO_dat, setO_lst, setO_fn, setV_newL, setV_newD, setV_fn, setV_dat, setV_slot, setDs_nil, setDs_cons, setTg_name, setTg_names, seqOf_list, seqOf_tuple, tupOf_tuple, lstOf_lst, zipS_list, zipS_tuple, ownL_eq, ownB_lst, ownB_io, ofOutIo_ok, oioB_io, oioB_lst, retV_dat, retV_newL, retV_slot, rtB_lst, ownOk_nil, ownOk_cons, ownF_un, ownF_dat, wipeB_nil, wipeB_cons, backB_nil, backB_cons, getD_some', and_tt, v_lenS, v_ixS, seqOf_sq, gdU_true, retO_some, end_ret, end_next, end_exc, ioS_io, ioS_dat, ioS_fn, ioS_exc, ioS_scr, ioOf_io, ioOf_dat, ioOf_fn, ioOf_exc, ioOf_scr, isIo_io, isIo_dat, isIo_fn, isIo_exc, isIo_scr, beq_self_eq_true, gdO_true, v_add, v_addL, v_addT, v_sub, v_mul, v_mulL, v_mulT, v_fdiv, v_mod, v_pow, v_lt, v_le, v_gt, v_ge, v_eq, v_ne, v_ixL, v_ixT, v_lenL, v_lenT, v_tupL, v_tupT, v_lstL, v_lstT, v_sum, v_sumT, v_all, v_any, v_neg, v_isN, v_notN, v_isT, v_notT, v_max, v_min, map_some', plain_one, isTys_one, List.getElem?_cons_zero, List.getElem?_cons_succ, List.set_cons_zero, List.set_cons_succ, List.cons_append, List.nil_append, List.map_cons, List.map_nil, arB, e_slcB, e_inRng, e_callV, e_callS, fnB_fn, i_wip, s_wipe, s_try, try_ret, try_exc, outR_ok, s_while, v_repr, v_revL, v_revT, v_intB, v_isF, v_notF, v_nil, cutT, cutL, cutN, cutS, cutD_list, List.replicate_succ, List.replicate_zero, c__law_told_by, show L2.atI [149, 140, 186] ((0 : Nat) : Int) = some 149 from rfl, e1]; rfl
  | 1, _ => simp only [e_var, e_cst, e_gfn, e_op2, e_fn1, e_fn2, e_isi, e_and, e_or, e_not, e_ite, e_chain, e_lst, e_tup, e_emp, e_nil, e_cons, e_slcL, e_slcU, e_call, e_callIo, e_comp, e_compIf, i_of, i_rng1, i_rng2, i_enum, i_zip, s_nil, s_cons, s_set, s_unp, s_par, s_drop, s_ret, s_ite, s_for, s_raise, s_app, s_sti, t_C, t_If, t_F, look_dat, look_lst, look_dct, look_io, look_fn, look_exc, look_scr, ioCall_lst, ioCall_io, stB_lst, stB_io, seq_next, seq_ret, seq_exc, R.bind_ok, R.bind_exc, oR_some, oO_some, noX_ok, gd_true, br_true, br_false, tru_bool, intOf_int, ofO_some, ofS_some, ofOut_ok, ofOut_exc, op2_dat, op2_newL, op2_slot, opd_some, fn1_dat, fn1_newL, fn1_slot, fnd_some, fn1_scr, op2_scr', fn2_dat, peek_dat', peek_newL, peek_slot, pkB_lst, pkB_io, isi_dat, frz_dat, frz_newL, frz_newD, frz_slot, fzB_lst, frzs_nil, frzs_cons, args_nil, args_fn, args_scr, args_dat, args_newL, args_newD, args_slot, setB_eq, setO_un, setO_dat, setO_lst, setO_fn, setV_newL, setV_newD, setV_fn, setV_dat, setV_slot, setDs_nil, setDs_cons, setTg_name, setTg_names, seqOf_list, seqOf_tuple, tupOf_tuple, lstOf_lst, zipS_list, zipS_tuple, ownL_eq, ownB_lst, ownB_io, ofOutIo_ok, oioB_io, oioB_lst, retV_dat, retV_newL, retV_slot, rtB_lst, ownOk_nil, ownOk_cons, ownF_un, ownF_dat, wipeB_nil, wipeB_cons, backB_nil, backB_cons, getD_some', and_tt, v_lenS, v_ixS, seqOf_sq, gdU_true, retO_some, end_ret, end_next, end_exc, ioS_io, ioS_dat, ioS_fn, ioS_exc, ioS_scr, ioOf_io, ioOf_dat, ioOf_fn, ioOf_exc, ioOf_scr, isIo_io, isIo_dat, isIo_fn, isIo_exc, isIo_scr, beq_self_eq_true, gdO_true, v_add, v_addL, v_addT, v_sub, v_mul, v_mulL, v_mulT, v_fdiv, v_mod, v_pow, v_lt, v_le, v_gt, v_ge, v_eq, v_ne, v_ixL, v_ixT, v_lenL, v_lenT, v_tupL, v_tupT, v_lstL, v_lstT, v_sum, v_sumT, v_all, v_any, v_neg, v_isN, v_notN, v_isT, v_notT, v_max, v_min, map_some', plain_one, isTys_one, List.getElem?_cons_zero, List.getElem?_cons_succ, List.set_cons_zero, List.set_cons_succ, List.cons_append, List.nil_append, List.map_cons, List.map_nil, arB, e_slcB, e_inRng, e_callV, e_callS, fnB_fn, i_wip, s_wipe, s_try, try_ret, try_exc, outR_ok, s_while, v_repr, v_revL, v_revT, v_intB, v_isF, v_notF, v_nil, cutT, cutL, cutN, cutS, cutD_list, List.replicate_succ, List.replicate_zero, c__law_told_by, show L2.atI [149, 140, 186] ((1 : Nat) : Int) = some 140 from rfl, e2]; rfl
  | 2, _ => simp only [e_var, e_cst, e_gfn, e_op2, e_fn1, e_fn2, e_isi, e_and, e_or, e_not, e_ite, e_chain, e_lst, e_tup, e_emp, e_nil, e_cons, e_slcL, e_slcU, e_call, e_callIo, e_comp, e_compIf, i_of, i_rng1, i_rng2, i_enum, i_zip, s_nil, s_cons, s_set, s_unp, s_par, s_drop, s_ret, s_ite, s_for, s_raise, s_app, s_sti, t_C, t_If, t_F, look_dat, look_lst, look_dct, look_io, look_fn, look_exc, look_scr, ioCall_lst, ioCall_io, stB_lst, stB_io, seq_next, seq_ret, seq_exc, R.bind_ok, R.bind_exc, oR_some, oO_some, noX_ok, gd_true, br_true, br_false, tru_bool, intOf_int, ofO_some, ofS_some, ofOut_ok, ofOut_exc, op2_dat, op2_newL, op2_slot, opd_some, fn1_dat, fn1_newL, fn1_slot, fnd_some, fn1_scr, op2_scr', fn2_dat, peek_dat', peek_newL, peek_slot, pkB_lst, pkB_io, isi_dat, frz_dat, frz_newL, frz_newD, frz_slot, fzB_lst, frzs_nil, frzs_cons, args_nil, args_fn, args_scr, args_dat, args_newL, args_newD, args_slot, setB_eq, setO_un, setO_dat, setO_lst, setO_fn, setV_newL, setV_newD, setV_fn, setV_dat, setV_slot, setDs_nil, setDs_cons, setTg_name, setTg_names, seqOf_list, seqOf_tuple, tupOf_tuple, lstOf_lst, zipS_list, zipS_tuple, ownL_eq, ownB_lst, ownB_io, ofOutIo_ok, oioB_io, oioB_lst, retV_dat, retV_newL, retV_slot, rtB_lst, ownOk_nil, ownOk_cons, ownF_un, ownF_dat, wipeB_nil, wipeB_cons, backB_nil, backB_cons, getD_some', and_tt, v_lenS, v_ixS, seqOf_sq, gdU_true, retO_some, end_ret, end_next, end_exc, ioS_io, ioS_dat, ioS_fn, ioS_exc, ioS_scr, ioOf_io, ioOf_dat, ioOf_fn, ioOf_exc, ioOf_scr, isIo_io, isIo_dat, isIo_fn, isIo_exc, isIo_scr, beq_self_eq_true, gdO_true, v_add, v_addL, v_addT, v_sub, v_mul, v_mulL, v_mulT, v_fdiv, v_mod, v_pow, v_lt, v_le, v_gt, v_ge, v_eq, v_ne, v_ixL, v_ixT, v_lenL, v_lenT, v_tupL, v_tupT, v_lstL, v_lstT, v_sum, v_sumT, v_all, v_any, v_neg, v_isN, v_notN, v_isT, v_notT, v_max, v_min, map_some', plain_one, isTys_one, List.getElem?_cons_zero, List.getElem?_cons_succ, List.set_cons_zero, List.set_cons_succ, List.cons_append, List.nil_append, List.map_cons, List.map_nil, arB, e_slcB, e_inRng, e_callV, e_callS, fnB_fn, i_wip, s_wipe, s_try, try_ret, try_exc, outR_ok, s_while, v_repr, v_revL, v_revT, v_intB, v_isF, v_notF, v_nil, cutT, cutL, cutN, cutS, cutD_list, List.replicate_succ, List.replicate_zero, c__law_told_by, show L2.atI [149, 140, 186] ((2 : Nat) : Int) = some 186 from rfl, e3]; rfl
def atN (l : List D) : D → D
  | .int k => l.getD k.toNat .none
  | _ => .none
theorem p_law (h : Rq_law P) (ns : List Int) : Spec P 10 162 [.scr ns] (.ok (.dat (.bool true)) []) := by
  refine spec_of h.1 rfl fun K hK => ?_
  obtain ⟨hO, hR, hC, hB, hI, hT, hU, hE, hS, hD⟩ := h.2
  have hA : P 90 = some ⟨2, 6, c_turnedA⟩ := hE.2
  obtain ⟨N, hN, hN2⟩ := turns (n := ns.length) (m := 15) (by decide)
  have hr : rngOk (N : Int) = true := rngOk_of' (by omega) (by omega)
  simp only [e_var, e_cst, e_gfn, e_op2, e_fn1, e_fn2, e_isi, e_and, e_or, e_not, e_ite, e_chain, e_lst, e_tup, e_emp, e_nil, e_cons, e_slcL, e_slcU, e_call, e_callIo, e_comp, e_compIf, i_of, i_rng1, i_rng2, i_enum, i_zip, s_nil, s_cons, s_set, s_unp, s_par, s_drop, s_ret, s_ite, s_for, s_raise, s_app, s_sti, t_C, t_If, t_F, look_dat, look_lst, look_dct, look_io, look_fn, look_exc, look_scr, ioCall_lst, ioCall_io, stB_lst, stB_io, seq_next, seq_ret, seq_exc, R.bind_ok, R.bind_exc, oR_some, oO_some, noX_ok, gd_true, br_true, br_false, tru_bool, intOf_int, ofO_some, ofS_some, ofOut_ok, ofOut_exc, op2_dat, op2_newL, op2_slot, opd_some, fn1_dat, fn1_newL, fn1_slot, fnd_some, fn1_scr, op2_scr', fn2_dat, peek_dat', peek_newL, peek_slot, pkB_lst, pkB_io, isi_dat, frz_dat, frz_newL, frz_newD, frz_slot, fzB_lst, frzs_nil, frzs_cons, args_nil, args_fn, args_scr, args_dat, args_newL, args_newD, args_slot, setB_eq, setO_un, setO_dat, setO_lst, setO_fn, setV_newL, setV_newD, setV_fn, setV_dat, setV_slot, setDs_nil, setDs_cons, setTg_name, setTg_names, seqOf_list, seqOf_tuple, tupOf_tuple, lstOf_lst, zipS_list, zipS_tuple, ownL_eq, ownB_lst, ownB_io, ofOutIo_ok, oioB_io, oioB_lst, retV_dat, retV_newL, retV_slot, rtB_lst, ownOk_nil, ownOk_cons, ownF_un, ownF_dat, wipeB_nil, wipeB_cons, backB_nil, backB_cons, getD_some', and_tt, v_lenS, v_ixS, seqOf_sq, gdU_true, retO_some, end_ret, end_next, end_exc, ioS_io, ioS_dat, ioS_fn, ioS_exc, ioS_scr, ioOf_io, ioOf_dat, ioOf_fn, ioOf_exc, ioOf_scr, isIo_io, isIo_dat, isIo_fn, isIo_exc, isIo_scr, beq_self_eq_true, gdO_true, v_add, v_addL, v_addT, v_sub, v_mul, v_mulL, v_mulT, v_fdiv, v_mod, v_pow, v_lt, v_le, v_gt, v_ge, v_eq, v_ne, v_ixL, v_ixT, v_lenL, v_lenT, v_tupL, v_tupT, v_lstL, v_lstT, v_sum, v_sumT, v_all, v_any, v_neg, v_isN, v_notN, v_isT, v_notT, v_max, v_min, map_some', plain_one, isTys_one, List.getElem?_cons_zero, List.getElem?_cons_succ, List.set_cons_zero, List.set_cons_succ, List.cons_append, List.nil_append, List.map_cons, List.map_nil, arB, e_slcB, e_inRng, e_callV, e_callS, fnB_fn, i_wip, s_wipe, s_try, try_ret, try_exc, outR_ok, s_while, v_repr, v_revL, v_revT, v_intB, v_isF, v_notF, v_nil, cutT, cutL, cutN, cutS, cutD_list, List.replicate_succ, List.replicate_zero, c_law, hN, hr, Int.toNat_natCast]
  generalize hL : loopF _ _ _ = L
  obtain rfl := loop_stay hL (fun x hx => by
    obtain ⟨k, hk⟩ := List.getElem?_of_mem hx
    obtain ⟨rfl, hlt⟩ := iota_get0 hk
    obtain ⟨c, hc⟩ := p_cell_at hC ns k
    obtain ⟨p, hp⟩ := p_pot hO c
    have hc := hc K (by omega)
    have hp := hp K (by omega)
    obtain ⟨K', rfl⟩ : ∃ K', K = K' + 1 := ⟨K - 1, by omega⟩
    obtain ⟨r, p1, e1, rO, rB⟩ := p_rowA hR.2.1 hA hR.1 p (K := K') (by omega)
    obtain ⟨d1, p2, b1, e2⟩ := p_bent hB rO rB p1 (K := K') (by omega)
    have bI : ∀ {l : List Int}, RowOk l → Bd 250 l → BentOk (tupI l) := fun {l} h1 h2 => ⟨(sh_tupI h2 (by decide) (by have := h1.2; omega)).mono (by decide) (by decide), fun _ => ⟨l, rfl, h1, h2⟩⟩
    have b0 := bI rO rB
    have b3 : BentOk (.tuple (r.map .int).reverse) := by
      rw [← List.map_reverse]
      exact bI (by unfold RowOk; rw [List.length_reverse]; exact rO) (fun n hn => rB n (List.mem_reverse.mp hn))
    unfold tupI at e1 e2 b0
    simp only [e_var, e_cst, e_gfn, e_op2, e_fn1, e_fn2, e_isi, e_and, e_or, e_not, e_ite, e_chain, e_lst, e_tup, e_emp, e_nil, e_cons, e_slcL, e_slcU, e_call, e_callIo, e_comp, e_compIf, i_of, i_rng1, i_rng2, i_enum, i_zip, s_nil, s_cons, s_set, s_unp, s_par, s_drop, s_ret, s_ite, s_for, s_raise, s_app, s_sti, t_C, t_If, t_F, look_dat, look_lst, look_dct, look_io, look_fn, look_exc, look_scr, ioCall_lst, ioCall_io, stB_lst, stB_io, seq_next, seq_ret, seq_exc, R.bind_ok, R.bind_exc, oR_some, oO_some, noX_ok, gd_true, br_true, br_false, tru_bool, intOf_int, ofO_some, ofS_some, ofOut_ok, ofOut_exc, op2_dat, op2_newL, op2_slot, opd_some, fn1_dat, fn1_newL, fn1_slot, fnd_some, fn1_scr, op2_scr', fn2_dat, peek_dat', peek_newL, peek_slot, pkB_lst, pkB_io, isi_dat, frz_dat, frz_newL, frz_newD, frz_slot, fzB_lst, frzs_nil, frzs_cons, args_nil, args_fn, args_scr, args_dat, args_newL, args_newD, args_slot, setB_eq, setO_un, setO_dat, setO_lst, setO_fn, setV_newL, setV_newD, setV_fn, setV_dat, setV_slot, setDs_nil, setDs_cons, setTg_name, setTg_names, seqOf_list, seqOf_tuple, tupOf_tuple, lstOf_lst, zipS_list, zipS_tuple, ownL_eq, ownB_lst, ownB_io, ofOutIo_ok, oioB_io, oioB_lst, retV_dat, retV_newL, retV_slot, rtB_lst, ownOk_nil, ownOk_cons, ownF_un, ownF_dat, wipeB_nil, wipeB_cons, backB_nil, backB_cons, getD_some', and_tt, v_lenS, v_ixS, seqOf_sq, gdU_true, retO_some, end_ret, end_next, end_exc, ioS_io, ioS_dat, ioS_fn, ioS_exc, ioS_scr, ioOf_io, ioOf_dat, ioOf_fn, ioOf_exc, ioOf_scr, isIo_io, isIo_dat, isIo_fn, isIo_exc, isIo_scr, beq_self_eq_true, gdO_true, v_add, v_addL, v_addT, v_sub, v_mul, v_mulL, v_mulT, v_fdiv, v_mod, v_pow, v_lt, v_le, v_gt, v_ge, v_eq, v_ne, v_ixL, v_ixT, v_lenL, v_lenT, v_tupL, v_tupT, v_lstL, v_lstT, v_sum, v_sumT, v_all, v_any, v_neg, v_isN, v_notN, v_isT, v_notT, v_max, v_min, map_some', plain_one, isTys_one, List.getElem?_cons_zero, List.getElem?_cons_succ, List.set_cons_zero, List.set_cons_succ, List.cons_append, List.nil_append, List.map_cons, List.map_nil, arB, e_slcB, e_inRng, e_callV, e_callS, fnB_fn, i_wip, s_wipe, s_try, try_ret, try_exc, outR_ok, s_while, v_repr, v_revL, v_revT, v_intB, v_isF, v_notF, v_nil, cutT, cutL, cutN, cutS, cutD_list, List.replicate_succ, List.replicate_zero, hc, hp, e1, e2, List.length_cons, List.length_nil, show lenOk (0 + 1 + 1 + 1 + 1) = true from rfl]
    generalize hM : loopF _ _ _ = M
    obtain rfl := loop_stay hM (fun y hy => by
      have bo : BentOk y := by
        simp only [List.mem_cons, List.not_mem_nil, or_false] at hy
        rcases hy with rfl | rfl | rfl | rfl <;> assumption
      have g1 := p_isrowA hI.2 hI.1 y (K' + 1) (by omega)
      have three : ∀ f : D → D, (iotaI 0 (Int.toNat 3)).map f = [f (.int (0 + ((0 : Nat) : Int))), f (.int (0 + ((1 : Nat) : Int))), f (.int (0 + ((2 : Nat) : Int)))] := fun f => rfl
      cases q : rowD y with
      | false =>
        rw [q] at g1
        simp only [e_var, e_cst, e_gfn, e_op2, e_fn1, e_fn2, e_isi, e_and, e_or, e_not, e_ite, e_chain, e_lst, e_tup, e_emp, e_nil, e_cons, e_slcL, e_slcU, e_call, e_callIo, e_comp, e_compIf, i_of, i_rng1, i_rng2, i_enum, i_zip, s_nil, s_cons, s_set, s_unp, s_par, s_drop, s_ret, s_ite, s_for, s_raise, s_app, s_sti, t_C, t_If, t_F, look_dat, look_lst, look_dct, look_io, look_fn, look_exc, look_scr, ioCall_lst, ioCall_io, stB_lst, stB_io, seq_next, seq_ret, seq_exc, R.bind_ok, R.bind_exc, oR_some, oO_some, noX_ok, gd_true, br_true, br_false, tru_bool, intOf_int, ofO_some, ofS_some, ofOut_ok, ofOut_exc, op2_dat, op2_newL, op2_slot, opd_some, fn1_dat, fn1_newL, fn1_slot, fnd_some, fn1_scr, op2_scr', fn2_dat, peek_dat', peek_newL, peek_slot, pkB_lst, pkB_io, isi_dat, frz_dat, frz_newL, frz_newD, frz_slot, fzB_lst, frzs_nil, frzs_cons, args_nil, args_fn, args_scr, args_dat, args_newL, args_newD, args_slot, setB_eq, setO_un, setO_dat, setO_lst, setO_fn, setV_newL, setV_newD, setV_fn, setV_dat, setV_slot, setDs_nil, setDs_cons, setTg_name, setTg_names, seqOf_list, seqOf_tuple, tupOf_tuple, lstOf_lst, zipS_list, zipS_tuple, ownL_eq, ownB_lst, ownB_io, ofOutIo_ok, oioB_io, oioB_lst, retV_dat, retV_newL, retV_slot, rtB_lst, ownOk_nil, ownOk_cons, ownF_un, ownF_dat, wipeB_nil, wipeB_cons, backB_nil, backB_cons, getD_some', and_tt, v_lenS, v_ixS, seqOf_sq, gdU_true, retO_some, end_ret, end_next, end_exc, ioS_io, ioS_dat, ioS_fn, ioS_exc, ioS_scr, ioOf_io, ioOf_dat, ioOf_fn, ioOf_exc, ioOf_scr, isIo_io, isIo_dat, isIo_fn, isIo_exc, isIo_scr, beq_self_eq_true, gdO_true, v_add, v_addL, v_addT, v_sub, v_mul, v_mulL, v_mulT, v_fdiv, v_mod, v_pow, v_lt, v_le, v_gt, v_ge, v_eq, v_ne, v_ixL, v_ixT, v_lenL, v_lenT, v_tupL, v_tupT, v_lstL, v_lstT, v_sum, v_sumT, v_all, v_any, v_neg, v_isN, v_notN, v_isT, v_notT, v_max, v_min, map_some', plain_one, isTys_one, List.getElem?_cons_zero, List.getElem?_cons_succ, List.set_cons_zero, List.set_cons_succ, List.cons_append, List.nil_append, List.map_cons, List.map_nil, arB, e_slcB, e_inRng, e_callV, e_callS, fnB_fn, i_wip, s_wipe, s_try, try_ret, try_exc, outR_ok, s_while, v_repr, v_revL, v_revT, v_intB, v_isF, v_notF, v_nil, cutT, cutL, cutN, cutS, cutD_list, List.replicate_succ, List.replicate_zero, g1, List.length_cons, List.length_nil, show lenOk (0 + 1) = true from rfl, show (decide ((3 : Int) < 1000000) && decide ((-1000000 : Int) < 3) && lenOk ((0 + 1) * (3 : Int).toNat)) = true from rfl, show rngOk 3 = true from rfl]
        generalize hQ : loopC _ _ _ _ = Q
        have := comp_eq hQ (fun _ => .str "row") fun d hd => by
          obtain ⟨j, rfl, hj⟩ := iota_mem hd
          rw [Int.zero_add]
          have h1 := told_ref hD q bo.1 j (by simpa using hj) (K' + 1) (by omega)
          simp only [e_var, e_cst, e_gfn, e_op2, e_fn1, e_fn2, e_isi, e_and, e_or, e_not, e_ite, e_chain, e_lst, e_tup, e_emp, e_nil, e_cons, e_slcL, e_slcU, e_call, e_callIo, e_comp, e_compIf, i_of, i_rng1, i_rng2, i_enum, i_zip, s_nil, s_cons, s_set, s_unp, s_par, s_drop, s_ret, s_ite, s_for, s_raise, s_app, s_sti, t_C, t_If, t_F, look_dat, look_lst, look_dct, look_io, look_fn, look_exc, look_scr, ioCall_lst, ioCall_io, stB_lst, stB_io, seq_next, seq_ret, seq_exc, R.bind_ok, R.bind_exc, oR_some, oO_some, noX_ok, gd_true, br_true, br_false, tru_bool, intOf_int, ofO_some, ofS_some, ofOut_ok, ofOut_exc, op2_dat, op2_newL, op2_slot, opd_some, fn1_dat, fn1_newL, fn1_slot, fnd_some, fn1_scr, op2_scr', fn2_dat, peek_dat', peek_newL, peek_slot, pkB_lst, pkB_io, isi_dat, frz_dat, frz_newL, frz_newD, frz_slot, fzB_lst, frzs_nil, frzs_cons, args_nil, args_fn, args_scr, args_dat, args_newL, args_newD, args_slot, setB_eq, setO_un, setO_dat, setO_lst, setO_fn, setV_newL, setV_newD, setV_fn, setV_dat, setV_slot, setDs_nil, setDs_cons, setTg_name, setTg_names, seqOf_list, seqOf_tuple, tupOf_tuple, lstOf_lst, zipS_list, zipS_tuple, ownL_eq, ownB_lst, ownB_io, ofOutIo_ok, oioB_io, oioB_lst, retV_dat, retV_newL, retV_slot, rtB_lst, ownOk_nil, ownOk_cons, ownF_un, ownF_dat, wipeB_nil, wipeB_cons, backB_nil, backB_cons, getD_some', and_tt, v_lenS, v_ixS, seqOf_sq, gdU_true, retO_some, end_ret, end_next, end_exc, ioS_io, ioS_dat, ioS_fn, ioS_exc, ioS_scr, ioOf_io, ioOf_dat, ioOf_fn, ioOf_exc, ioOf_scr, isIo_io, isIo_dat, isIo_fn, isIo_exc, isIo_scr, beq_self_eq_true, gdO_true, v_add, v_addL, v_addT, v_sub, v_mul, v_mulL, v_mulT, v_fdiv, v_mod, v_pow, v_lt, v_le, v_gt, v_ge, v_eq, v_ne, v_ixL, v_ixT, v_lenL, v_lenT, v_tupL, v_tupT, v_lstL, v_lstT, v_sum, v_sumT, v_all, v_any, v_neg, v_isN, v_notN, v_isT, v_notT, v_max, v_min, map_some', plain_one, isTys_one, List.getElem?_cons_zero, List.getElem?_cons_succ, List.set_cons_zero, List.set_cons_succ, List.cons_append, List.nil_append, List.map_cons, List.map_nil, arB, e_slcB, e_inRng, e_callV, e_callS, fnB_fn, i_wip, s_wipe, s_try, try_ret, try_exc, outR_ok, s_while, v_repr, v_revL, v_revT, v_intB, v_isF, v_notF, v_nil, cutT, cutL, cutN, cutS, cutD_list, List.replicate_succ, List.replicate_zero, h1]
        subst this
        rw [three]
        have g4 := p_same hS 1 (.list [.str "row", .str "row", .str "row"]) rfl (K' + 1) (by omega)
        rw [show (List.replicate (3 : Int).toNat [PyData.str "row"]).flatten = [.str "row", .str "row", .str "row"] from rfl]
        simp only [e_var, e_cst, e_gfn, e_op2, e_fn1, e_fn2, e_isi, e_and, e_or, e_not, e_ite, e_chain, e_lst, e_tup, e_emp, e_nil, e_cons, e_slcL, e_slcU, e_call, e_callIo, e_comp, e_compIf, i_of, i_rng1, i_rng2, i_enum, i_zip, s_nil, s_cons, s_set, s_unp, s_par, s_drop, s_ret, s_ite, s_for, s_raise, s_app, s_sti, t_C, t_If, t_F, look_dat, look_lst, look_dct, look_io, look_fn, look_exc, look_scr, ioCall_lst, ioCall_io, stB_lst, stB_io, seq_next, seq_ret, seq_exc, R.bind_ok, R.bind_exc, oR_some, oO_some, noX_ok, gd_true, br_true, br_false, tru_bool, intOf_int, ofO_some, ofS_some, ofOut_ok, ofOut_exc, op2_dat, op2_newL, op2_slot, opd_some, fn1_dat, fn1_newL, fn1_slot, fnd_some, fn1_scr, op2_scr', fn2_dat, peek_dat', peek_newL, peek_slot, pkB_lst, pkB_io, isi_dat, frz_dat, frz_newL, frz_newD, frz_slot, fzB_lst, frzs_nil, frzs_cons, args_nil, args_fn, args_scr, args_dat, args_newL, args_newD, args_slot, setB_eq, setO_un, setO_dat, setO_lst, setO_fn, setV_newL, setV_newD, setV_fn, setV_dat, setV_slot, setDs_nil, setDs_cons, setTg_name, setTg_names, seqOf_list, seqOf_tuple, tupOf_tuple, lstOf_lst, zipS_list, zipS_tuple, ownL_eq, ownB_lst, ownB_io, ofOutIo_ok, oioB_io, oioB_lst, retV_dat, retV_newL, retV_slot, rtB_lst, ownOk_nil, ownOk_cons, ownF_un, ownF_dat, wipeB_nil, wipeB_cons, backB_nil, backB_cons, getD_some', and_tt, v_lenS, v_ixS, seqOf_sq, gdU_true, retO_some, end_ret, end_next, end_exc, ioS_io, ioS_dat, ioS_fn, ioS_exc, ioS_scr, ioOf_io, ioOf_dat, ioOf_fn, ioOf_exc, ioOf_scr, isIo_io, isIo_dat, isIo_fn, isIo_exc, isIo_scr, beq_self_eq_true, gdO_true, v_add, v_addL, v_addT, v_sub, v_mul, v_mulL, v_mulT, v_fdiv, v_mod, v_pow, v_lt, v_le, v_gt, v_ge, v_eq, v_ne, v_ixL, v_ixT, v_lenL, v_lenT, v_tupL, v_tupT, v_lstL, v_lstT, v_sum, v_sumT, v_all, v_any, v_neg, v_isN, v_notN, v_isT, v_notT, v_max, v_min, map_some', plain_one, isTys_one, List.getElem?_cons_zero, List.getElem?_cons_succ, List.set_cons_zero, List.set_cons_succ, List.cons_append, List.nil_append, List.map_cons, List.map_nil, arB, e_slcB, e_inRng, e_callV, e_callS, fnB_fn, i_wip, s_wipe, s_try, try_ret, try_exc, outR_ok, s_while, v_repr, v_revL, v_revT, v_intB, v_isF, v_notF, v_nil, cutT, cutL, cutN, cutS, cutD_list, List.replicate_succ, List.replicate_zero, g4, Bool.not_true]
      | true =>
        obtain ⟨l, rfl, lO, lB⟩ := bo.2 q
        rw [q] at g1
        have t1 := p_due hE lO lB (K' + 1) (by omega)
        simp only [e_var, e_cst, e_gfn, e_op2, e_fn1, e_fn2, e_isi, e_and, e_or, e_not, e_ite, e_chain, e_lst, e_tup, e_emp, e_nil, e_cons, e_slcL, e_slcU, e_call, e_callIo, e_comp, e_compIf, i_of, i_rng1, i_rng2, i_enum, i_zip, s_nil, s_cons, s_set, s_unp, s_par, s_drop, s_ret, s_ite, s_for, s_raise, s_app, s_sti, t_C, t_If, t_F, look_dat, look_lst, look_dct, look_io, look_fn, look_exc, look_scr, ioCall_lst, ioCall_io, stB_lst, stB_io, seq_next, seq_ret, seq_exc, R.bind_ok, R.bind_exc, oR_some, oO_some, noX_ok, gd_true, br_true, br_false, tru_bool, intOf_int, ofO_some, ofS_some, ofOut_ok, ofOut_exc, op2_dat, op2_newL, op2_slot, opd_some, fn1_dat, fn1_newL, fn1_slot, fnd_some, fn1_scr, op2_scr', fn2_dat, peek_dat', peek_newL, peek_slot, pkB_lst, pkB_io, isi_dat, frz_dat, frz_newL, frz_newD, frz_slot, fzB_lst, frzs_nil, frzs_cons, args_nil, args_fn, args_scr, args_dat, args_newL, args_newD, args_slot, setB_eq, setO_un, setO_dat, setO_lst, setO_fn, setV_newL, setV_newD, setV_fn, setV_dat, setV_slot, setDs_nil, setDs_cons, setTg_name, setTg_names, seqOf_list, seqOf_tuple, tupOf_tuple, lstOf_lst, zipS_list, zipS_tuple, ownL_eq, ownB_lst, ownB_io, ofOutIo_ok, oioB_io, oioB_lst, retV_dat, retV_newL, retV_slot, rtB_lst, ownOk_nil, ownOk_cons, ownF_un, ownF_dat, wipeB_nil, wipeB_cons, backB_nil, backB_cons, getD_some', and_tt, v_lenS, v_ixS, seqOf_sq, gdU_true, retO_some, end_ret, end_next, end_exc, ioS_io, ioS_dat, ioS_fn, ioS_exc, ioS_scr, ioOf_io, ioOf_dat, ioOf_fn, ioOf_exc, ioOf_scr, isIo_io, isIo_dat, isIo_fn, isIo_exc, isIo_scr, beq_self_eq_true, gdO_true, v_add, v_addL, v_addT, v_sub, v_mul, v_mulL, v_mulT, v_fdiv, v_mod, v_pow, v_lt, v_le, v_gt, v_ge, v_eq, v_ne, v_ixL, v_ixT, v_lenL, v_lenT, v_tupL, v_tupT, v_lstL, v_lstT, v_sum, v_sumT, v_all, v_any, v_neg, v_isN, v_notN, v_isT, v_notT, v_max, v_min, map_some', plain_one, isTys_one, List.getElem?_cons_zero, List.getElem?_cons_succ, List.set_cons_zero, List.set_cons_succ, List.cons_append, List.nil_append, List.map_cons, List.map_nil, arB, e_slcB, e_inRng, e_callV, e_callS, fnB_fn, i_wip, s_wipe, s_try, try_ret, try_exc, outR_ok, s_while, v_repr, v_revL, v_revT, v_intB, v_isF, v_notF, v_nil, cutT, cutL, cutN, cutS, cutD_list, List.replicate_succ, List.replicate_zero, g1, t1, List.length_cons, List.length_nil, show lenOk (0 + 1) = true from rfl, show (decide ((3 : Int) < 1000000) && decide ((-1000000 : Int) < 3) && lenOk ((0 + 1) * (3 : Int).toNat)) = true from rfl, show rngOk 3 = true from rfl]
        generalize hQ : loopC _ _ _ _ = Q
        have := comp_eq hQ (atN (dueL l)) fun d hd => by
          obtain ⟨j, rfl, hj⟩ := iota_mem hd
          rw [Int.zero_add]
          have h1 := told_ok hD lO lB j (by simpa using hj) (K' + 1) (by omega)
          rw [show atN (dueL l) (.int ((j : Nat) : Int)) = (dueL l).getD j .none by show (dueL l).getD ((j : Nat) : Int).toNat .none = _; rw [Int.toNat_natCast]]
          simp only [e_var, e_cst, e_gfn, e_op2, e_fn1, e_fn2, e_isi, e_and, e_or, e_not, e_ite, e_chain, e_lst, e_tup, e_emp, e_nil, e_cons, e_slcL, e_slcU, e_call, e_callIo, e_comp, e_compIf, i_of, i_rng1, i_rng2, i_enum, i_zip, s_nil, s_cons, s_set, s_unp, s_par, s_drop, s_ret, s_ite, s_for, s_raise, s_app, s_sti, t_C, t_If, t_F, look_dat, look_lst, look_dct, look_io, look_fn, look_exc, look_scr, ioCall_lst, ioCall_io, stB_lst, stB_io, seq_next, seq_ret, seq_exc, R.bind_ok, R.bind_exc, oR_some, oO_some, noX_ok, gd_true, br_true, br_false, tru_bool, intOf_int, ofO_some, ofS_some, ofOut_ok, ofOut_exc, op2_dat, op2_newL, op2_slot, opd_some, fn1_dat, fn1_newL, fn1_slot, fnd_some, fn1_scr, op2_scr', fn2_dat, peek_dat', peek_newL, peek_slot, pkB_lst, pkB_io, isi_dat, frz_dat, frz_newL, frz_newD, frz_slot, fzB_lst, frzs_nil, frzs_cons, args_nil, args_fn, args_scr, args_dat, args_newL, args_newD, args_slot, setB_eq, setO_un, setO_dat, setO_lst, setO_fn, setV_newL, setV_newD, setV_fn, setV_dat, setV_slot, setDs_nil, setDs_cons, setTg_name, setTg_names, seqOf_list, seqOf_tuple, tupOf_tuple, lstOf_lst, zipS_list, zipS_tuple, ownL_eq, ownB_lst, ownB_io, ofOutIo_ok, oioB_io, oioB_lst, retV_dat, retV_newL, retV_slot, rtB_lst, ownOk_nil, ownOk_cons, ownF_un, ownF_dat, wipeB_nil, wipeB_cons, backB_nil, backB_cons, getD_some', and_tt, v_lenS, v_ixS, seqOf_sq, gdU_true, retO_some, end_ret, end_next, end_exc, ioS_io, ioS_dat, ioS_fn, ioS_exc, ioS_scr, ioOf_io, ioOf_dat, ioOf_fn, ioOf_exc, ioOf_scr, isIo_io, isIo_dat, isIo_fn, isIo_exc, isIo_scr, beq_self_eq_true, gdO_true, v_add, v_addL, v_addT, v_sub, v_mul, v_mulL, v_mulT, v_fdiv, v_mod, v_pow, v_lt, v_le, v_gt, v_ge, v_eq, v_ne, v_ixL, v_ixT, v_lenL, v_lenT, v_tupL, v_tupT, v_lstL, v_lstT, v_sum, v_sumT, v_all, v_any, v_neg, v_isN, v_notN, v_isT, v_notT, v_max, v_min, map_some', plain_one, isTys_one, List.getElem?_cons_zero, List.getElem?_cons_succ, List.set_cons_zero, List.set_cons_succ, List.cons_append, List.nil_append, List.map_cons, List.map_nil, arB, e_slcB, e_inRng, e_callV, e_callS, fnB_fn, i_wip, s_wipe, s_try, try_ret, try_exc, outR_ok, s_while, v_repr, v_revL, v_revT, v_intB, v_isF, v_notF, v_nil, cutT, cutL, cutN, cutS, cutD_list, List.replicate_succ, List.replicate_zero, h1]
        subst this
        rw [three, show [atN (dueL l) (.int (0 + ((0 : Nat) : Int))), atN (dueL l) (.int (0 + ((1 : Nat) : Int))), atN (dueL l) (.int (0 + ((2 : Nat) : Int)))] = dueL l from rfl]
        have fO : ∀ o : Option Nat, fit 1 (optI o) = true := fun o => by cases o <;> rfl
        have g4 := p_same hS 2 (.list (dueL l)) (by
          show ((dueL l).all (fit 1)) = true
          unfold dueL
          rw [List.all_cons, List.all_cons, List.all_cons, fit_bool, fO, fit_tupI 0]; rfl) (K' + 1) (by omega)
        simp only [e_var, e_cst, e_gfn, e_op2, e_fn1, e_fn2, e_isi, e_and, e_or, e_not, e_ite, e_chain, e_lst, e_tup, e_emp, e_nil, e_cons, e_slcL, e_slcU, e_call, e_callIo, e_comp, e_compIf, i_of, i_rng1, i_rng2, i_enum, i_zip, s_nil, s_cons, s_set, s_unp, s_par, s_drop, s_ret, s_ite, s_for, s_raise, s_app, s_sti, t_C, t_If, t_F, look_dat, look_lst, look_dct, look_io, look_fn, look_exc, look_scr, ioCall_lst, ioCall_io, stB_lst, stB_io, seq_next, seq_ret, seq_exc, R.bind_ok, R.bind_exc, oR_some, oO_some, noX_ok, gd_true, br_true, br_false, tru_bool, intOf_int, ofO_some, ofS_some, ofOut_ok, ofOut_exc, op2_dat, op2_newL, op2_slot, opd_some, fn1_dat, fn1_newL, fn1_slot, fnd_some, fn1_scr, op2_scr', fn2_dat, peek_dat', peek_newL, peek_slot, pkB_lst, pkB_io, isi_dat, frz_dat, frz_newL, frz_newD, frz_slot, fzB_lst, frzs_nil, frzs_cons, args_nil, args_fn, args_scr, args_dat, args_newL, args_newD, args_slot, setB_eq, setO_un, setO_dat, setO_lst, setO_fn, setV_newL, setV_newD, setV_fn, setV_dat, setV_slot, setDs_nil, setDs_cons, setTg_name, setTg_names, seqOf_list, seqOf_tuple, tupOf_tuple, lstOf_lst, zipS_list, zipS_tuple, ownL_eq, ownB_lst, ownB_io, ofOutIo_ok, oioB_io, oioB_lst, retV_dat, retV_newL, retV_slot, rtB_lst, ownOk_nil, ownOk_cons, ownF_un, ownF_dat, wipeB_nil, wipeB_cons, backB_nil, backB_cons, getD_some', and_tt, v_lenS, v_ixS, seqOf_sq, gdU_true, retO_some, end_ret, end_next, end_exc, ioS_io, ioS_dat, ioS_fn, ioS_exc, ioS_scr, ioOf_io, ioOf_dat, ioOf_fn, ioOf_exc, ioOf_scr, isIo_io, isIo_dat, isIo_fn, isIo_exc, isIo_scr, beq_self_eq_true, gdO_true, v_add, v_addL, v_addT, v_sub, v_mul, v_mulL, v_mulT, v_fdiv, v_mod, v_pow, v_lt, v_le, v_gt, v_ge, v_eq, v_ne, v_ixL, v_ixT, v_lenL, v_lenT, v_tupL, v_tupT, v_lstL, v_lstT, v_sum, v_sumT, v_all, v_any, v_neg, v_isN, v_notN, v_isT, v_notT, v_max, v_min, map_some', plain_one, isTys_one, List.getElem?_cons_zero, List.getElem?_cons_succ, List.set_cons_zero, List.set_cons_succ, List.cons_append, List.nil_append, List.map_cons, List.map_nil, arB, e_slcB, e_inRng, e_callV, e_callS, fnB_fn, i_wip, s_wipe, s_try, try_ret, try_exc, outR_ok, s_while, v_repr, v_revL, v_revT, v_intB, v_isF, v_notF, v_nil, cutT, cutL, cutN, cutS, cutD_list, List.replicate_succ, List.replicate_zero, g4, Bool.not_true])
    simp only [e_var, e_cst, e_gfn, e_op2, e_fn1, e_fn2, e_isi, e_and, e_or, e_not, e_ite, e_chain, e_lst, e_tup, e_emp, e_nil, e_cons, e_slcL, e_slcU, e_call, e_callIo, e_comp, e_compIf, i_of, i_rng1, i_rng2, i_enum, i_zip, s_nil, s_cons, s_set, s_unp, s_par, s_drop, s_ret, s_ite, s_for, s_raise, s_app, s_sti, t_C, t_If, t_F, look_dat, look_lst, look_dct, look_io, look_fn, look_exc, look_scr, ioCall_lst, ioCall_io, stB_lst, stB_io, seq_next, seq_ret, seq_exc, R.bind_ok, R.bind_exc, oR_some, oO_some, noX_ok, gd_true, br_true, br_false, tru_bool, intOf_int, ofO_some, ofS_some, ofOut_ok, ofOut_exc, op2_dat, op2_newL, op2_slot, opd_some, fn1_dat, fn1_newL, fn1_slot, fnd_some, fn1_scr, op2_scr', fn2_dat, peek_dat', peek_newL, peek_slot, pkB_lst, pkB_io, isi_dat, frz_dat, frz_newL, frz_newD, frz_slot, fzB_lst, frzs_nil, frzs_cons, args_nil, args_fn, args_scr, args_dat, args_newL, args_newD, args_slot, setB_eq, setO_un, setO_dat, setO_lst, setO_fn, setV_newL, setV_newD, setV_fn, setV_dat, setV_slot, setDs_nil, setDs_cons, setTg_name, setTg_names, seqOf_list, seqOf_tuple, tupOf_tuple, lstOf_lst, zipS_list, zipS_tuple, ownL_eq, ownB_lst, ownB_io, ofOutIo_ok, oioB_io, oioB_lst, retV_dat, retV_newL, retV_slot, rtB_lst, ownOk_nil, ownOk_cons, ownF_un, ownF_dat, wipeB_nil, wipeB_cons, backB_nil, backB_cons, getD_some', and_tt, v_lenS, v_ixS, seqOf_sq, gdU_true, retO_some, end_ret, end_next, end_exc, ioS_io, ioS_dat, ioS_fn, ioS_exc, ioS_scr, ioOf_io, ioOf_dat, ioOf_fn, ioOf_exc, ioOf_scr, isIo_io, isIo_dat, isIo_fn, isIo_exc, isIo_scr, beq_self_eq_true, gdO_true, v_add, v_addL, v_addT, v_sub, v_mul, v_mulL, v_mulT, v_fdiv, v_mod, v_pow, v_lt, v_le, v_gt, v_ge, v_eq, v_ne, v_ixL, v_ixT, v_lenL, v_lenT, v_tupL, v_tupT, v_lstL, v_lstT, v_sum, v_sumT, v_all, v_any, v_neg, v_isN, v_notN, v_isT, v_notT, v_max, v_min, map_some', plain_one, isTys_one, List.getElem?_cons_zero, List.getElem?_cons_succ, List.set_cons_zero, List.set_cons_succ, List.cons_append, List.nil_append, List.map_cons, List.map_nil, arB, e_slcB, e_inRng, e_callV, e_callS, fnB_fn, i_wip, s_wipe, s_try, try_ret, try_exc, outR_ok, s_while, v_repr, v_revL, v_revT, v_intB, v_isF, v_notF, v_nil, cutT, cutL, cutN, cutS, cutD_list, List.replicate_succ, List.replicate_zero])
  have b1 := q_steps hT (ns := [1, 6, 12, 8]) (b := 10) (by unfold RowOk; decide) (by unfold Bd; decide +kernel) (by decide) K (by omega)
  have b2 := q_first_uneven hU (ns := [1, 3, 3]) (b := 10) (by unfold RowOk; decide) (by unfold Bd; decide +kernel) (by decide) K (by omega)
  have b3 := q_first_uneven hU (ns := [2, 2]) (b := 10) (by unfold RowOk; decide) (by unfold Bd; decide +kernel) (by decide) K (by omega)
  rw [show tupI [1, 6, 12, 8] = .tuple [.int 1, .int 6, .int 12, .int 8] from rfl, show stL (trL ((([1, 6, 12, 8] : List Int).length - 1 : Nat) : Int) [1, 6, 12, 8]) = [1, 2] by decide +kernel] at b1
  rw [show tupI [1, 3, 3] = .tuple [.int 1, .int 3, .int 3] from rfl, show unev (trL ((([1, 3, 3] : List Int).length - 1 : Nat) : Int) [1, 3, 3]) 0 ([1, 3, 3] : List Int).length = none by decide +kernel] at b2
  rw [show tupI [2, 2] = .tuple [.int 2, .int 2] from rfl, show unev (trL ((([2, 2] : List Int).length - 1 : Nat) : Int) [2, 2]) 0 ([2, 2] : List Int).length = some 0 by decide +kernel] at b3
  simp only [e_var, e_cst, e_gfn, e_op2, e_fn1, e_fn2, e_isi, e_and, e_or, e_not, e_ite, e_chain, e_lst, e_tup, e_emp, e_nil, e_cons, e_slcL, e_slcU, e_call, e_callIo, e_comp, e_compIf, i_of, i_rng1, i_rng2, i_enum, i_zip, s_nil, s_cons, s_set, s_unp, s_par, s_drop, s_ret, s_ite, s_for, s_raise, s_app, s_sti, t_C, t_If, t_F, look_dat, look_lst, look_dct, look_io, look_fn, look_exc, look_scr, ioCall_lst, ioCall_io, stB_lst, stB_io, seq_next, seq_ret, seq_exc, R.bind_ok, R.bind_exc, oR_some, oO_some, noX_ok, gd_true, br_true, br_false, tru_bool, intOf_int, ofO_some, ofS_some, ofOut_ok, ofOut_exc, op2_dat, op2_newL, op2_slot, opd_some, fn1_dat, fn1_newL, fn1_slot, fnd_some, fn1_scr, op2_scr', fn2_dat, peek_dat', peek_newL, peek_slot, pkB_lst, pkB_io, isi_dat, frz_dat, frz_newL, frz_newD, frz_slot, fzB_lst, frzs_nil, frzs_cons, args_nil, args_fn, args_scr, args_dat, args_newL, args_newD, args_slot, setB_eq, setO_un, setO_dat, setO_lst, setO_fn, setV_newL, setV_newD, setV_fn, setV_dat, setV_slot, setDs_nil, setDs_cons, setTg_name, setTg_names, seqOf_list, seqOf_tuple, tupOf_tuple, lstOf_lst, zipS_list, zipS_tuple, ownL_eq, ownB_lst, ownB_io, ofOutIo_ok, oioB_io, oioB_lst, retV_dat, retV_newL, retV_slot, rtB_lst, ownOk_nil, ownOk_cons, ownF_un, ownF_dat, wipeB_nil, wipeB_cons, backB_nil, backB_cons, getD_some', and_tt, v_lenS, v_ixS, seqOf_sq, gdU_true, retO_some, end_ret, end_next, end_exc, ioS_io, ioS_dat, ioS_fn, ioS_exc, ioS_scr, ioOf_io, ioOf_dat, ioOf_fn, ioOf_exc, ioOf_scr, isIo_io, isIo_dat, isIo_fn, isIo_exc, isIo_scr, beq_self_eq_true, gdO_true, v_add, v_addL, v_addT, v_sub, v_mul, v_mulL, v_mulT, v_fdiv, v_mod, v_pow, v_lt, v_le, v_gt, v_ge, v_eq, v_ne, v_ixL, v_ixT, v_lenL, v_lenT, v_tupL, v_tupT, v_lstL, v_lstT, v_sum, v_sumT, v_all, v_any, v_neg, v_isN, v_notN, v_isT, v_notT, v_max, v_min, map_some', plain_one, isTys_one, List.getElem?_cons_zero, List.getElem?_cons_succ, List.set_cons_zero, List.set_cons_succ, List.cons_append, List.nil_append, List.map_cons, List.map_nil, arB, e_slcB, e_inRng, e_callV, e_callS, fnB_fn, i_wip, s_wipe, s_try, try_ret, try_exc, outR_ok, s_while, v_repr, v_revL, v_revT, v_intB, v_isF, v_notF, v_nil, cutT, cutL, cutN, cutS, cutD_list, List.replicate_succ, List.replicate_zero, b1, b2, b3, optI, isNone, List.length_cons, List.length_nil, show lenOk (0 + 1) = true from rfl, show lenOk (0 + 1 + 1) = true from rfl, show lenOk (0 + 1 + 1 + 1) = true from rfl, show lenOk (0 + 1 + 1 + 1 + 1) = true from rfl, v_eq, tupI]
  rfl
end
end K12
end Fc

namespace K12
open Fc Fc.K12 PySem
abbrev prog : PySem.Program := PySem.Challenge.pw_facecounts_k12_even_rows_and_steps
def tp (i : Nat) : Stmt := prog.main.body.getD i (.Pass ⟨0, 0, 0, 0⟩)
def x_is_whole : Fx := ⟨158, "is_whole", L2.defArgs (tp 19), L2.defBody (tp 19), L2.defScope (tp 19), ["thing"], 1, c_is_whole⟩
def x_are_numbers : Fx := ⟨100, "are_numbers", L2.defArgs (tp 22), L2.defBody (tp 22), L2.defScope (tp 22), ["thing", "many", "one"], 2, c_are_numbers⟩
def x_is_row : Fx := ⟨155, "is_row", L2.defArgs (tp 23), L2.defBody (tp 23), L2.defScope (tp 23), ["thing"], 1, c_is_row⟩
def x_check_row : Fx := ⟨121, "check_row", L2.defArgs (tp 24), L2.defBody (tp 24), L2.defScope (tp 24), ["row"], 1, c_check_row⟩
def x_ways : Fx := ⟨199, "ways", L2.defArgs (tp 25), L2.defBody (tp 25), L2.defScope (tp 25), ["things", "number", "found", "turn"], 2, c_ways⟩
def x_turned_by : Fx := ⟨196, "turned_by", L2.defArgs (tp 26), L2.defBody (tp 26), L2.defScope (tp 26), ["width", "numbers", "found", "place", "total", "at", "many"], 2, c_turned_by⟩
def x_turned_of : Fx := ⟨197, "turned_of", L2.defArgs (tp 27), L2.defBody (tp 27), L2.defScope (tp 27), ["row"], 1, c_turned_of⟩
def x_uneven_of : Fx := ⟨198, "uneven_of", L2.defArgs (tp 28), L2.defBody (tp 28), L2.defScope (tp 28), ["row", "found", "place", "number"], 1, c_uneven_of⟩
def x_is_even : Fx := ⟨149, "is_even", L2.defArgs (tp 29), L2.defBody (tp 29), L2.defScope (tp 29), ["row"], 1, c_is_even⟩
def x_first_uneven : Fx := ⟨140, "first_uneven", L2.defArgs (tp 30), L2.defBody (tp 30), L2.defScope (tp 30), ["row"], 1, c_first_uneven⟩
def x_steps_of : Fx := ⟨187, "steps_of", L2.defArgs (tp 31), L2.defBody (tp 31), L2.defScope (tp 31), ["row", "found", "rise", "at"], 1, c_steps_of⟩
def x_steps : Fx := ⟨186, "steps", L2.defArgs (tp 32), L2.defBody (tp 32), L2.defScope (tp 32), ["row"], 1, c_steps⟩
def x__law_cell_at : Fx := ⟨13, "_law_cell_at", L2.defArgs (tp 34), L2.defBody (tp 34), L2.defScope (tp 34), ["_law_script", "_law_k"], 2, c__law_cell_at⟩
def x__law_pot : Fx := ⟨66, "_law_pot", L2.defArgs (tp 35), L2.defBody (tp 35), L2.defScope (tp 35), ["_law_cell", "_law_number", "_law_j", "_law_more"], 1, c__law_pot⟩
def x__law_take : Fx := ⟨83, "_law_take", L2.defArgs (tp 36), L2.defBody (tp 36), L2.defScope (tp 36), ["_law_pot_here", "_law_far", "_law_found"], 2, c__law_take⟩
def x__law_whole : Fx := ⟨92, "_law_whole", L2.defArgs (tp 37), L2.defBody (tp 37), L2.defScope (tp 37), ["_law_thing"], 1, c__law_whole⟩
def x__law_same : Fx := ⟨73, "_law_same", L2.defArgs (tp 38), L2.defBody (tp 38), L2.defScope (tp 38), ["_law_found", "_law_due_here", "_law_one", "_law_other"], 2, c__law_same⟩
def x__law_turned : Fx := ⟨90, "_law_turned", L2.defArgs (tp 39), L2.defBody (tp 39), L2.defScope (tp 39), ["_law_row_here", "_law_sign", "_law_found", "_law_number", "_law_one", "_law_other"], 2, c__law_turned⟩
def x__law_row : Fx := ⟨68, "_law_row", L2.defArgs (tp 40), L2.defBody (tp 40), L2.defScope (tp 40), ["_law_pot_here", "_law_way", "_law_width", "_law_far", "_law_at", "_law_more", "_law_row_here", "_law_place"], 1, c__law_row⟩
def x__law_is_row : Fx := ⟨42, "_law_is_row", L2.defArgs (tp 41), L2.defBody (tp 41), L2.defScope (tp 41), ["_law_thing", "_law_one"], 1, c__law_is_row⟩
def x__law_odd : Fx := ⟨58, "_law_odd", L2.defArgs (tp 42), L2.defBody (tp 42), L2.defScope (tp 42), ["_law_pot_here", "_law_some"], 1, c__law_odd⟩
def x__law_bent_row : Fx := ⟨7, "_law_bent_row", L2.defArgs (tp 43), L2.defBody (tp 43), L2.defScope (tp 43), ["_law_pot_here", "_law_row_here", "_law_way", "_law_at", "_law_odd_here", "_law_bent"], 2, c__law_bent_row⟩
def x__law_kind_of : Fx := ⟨44, "_law_kind_of", L2.defArgs (tp 44), L2.defBody (tp 44), L2.defScope (tp 44), ["_law_e", "_law_some", "_law_words"], 1, c__law_kind_of⟩
def x__law_told_by : Fx := ⟨88, "_law_told_by", L2.defArgs (tp 45), L2.defBody (tp 45), L2.defScope (tp 45), ["_law_way", "_law_thing", "_law_e"], 2, c__law_told_by⟩
def x__law_told : Fx := ⟨87, "_law_told", L2.defArgs (tp 46), L2.defBody (tp 46), L2.defScope (tp 46), ["_law_way", "_law_thing", "_law_kept", "_law_found"], 2, c__law_told⟩
def x__law_due : Fx := ⟨24, "_law_due", L2.defArgs (tp 47), L2.defBody (tp 47), L2.defScope (tp 47), ["_law_row_here", "_law_found", "_law_unlike", "_law_rise", "_law_place", "_law_number"], 1, c__law_due⟩
def x_law : Fx := ⟨162, "law", L2.defArgs (tp 48), L2.defBody (tp 48), L2.defScope (tp 48), ["_law_script", "_law_k", "_law_pot_here", "_law_row_here", "_law_thing", "_law_due_here", "_law_way"], 1, c_law⟩
def fx : List Fx := [x_is_whole, x_are_numbers, x_is_row, x_check_row, x_ways, x_turned_by, x_turned_of, x_uneven_of, x_is_even, x_first_uneven, x_steps_of, x_steps, x__law_cell_at, x__law_pot, x__law_take, x__law_whole, x__law_same, x__law_turned, x__law_row, x__law_is_row, x__law_odd, x__law_bent_row, x__law_kind_of, x__law_told_by, x__law_told, x__law_due, x_law]
def cls : List (Str × Nat) := [("FaceError", 0), ("NoNet", 1), ("NoFace", 2), ("NoPoint", 3), ("NotApart", 4), ("TooMany", 5), ("NoText", 6), ("NoRow", 7), ("NoNumber", 8), ("NotLevel", 9), ("NoCrowd", 10), ("NoWay", 11), ("NotClosed", 12), ("NoSwap", 13), ("NoPlaces", 14), ("NoDeed", 15), ("NoLine", 16)]
def cst : List (Str × Int) := [("MOST_LONG", 12)]
def hot : List (Str × Nat) := [("_law_kind_of", 44)]
def fre : List Str := ["ValueError", "all", "bool", "enumerate", "int", "isinstance", "len", "list", "max", "min", "range", "repr", "str", "tuple", "zip"]
def loose : List Str := (["is_whole", "are_numbers", "is_row", "check_row", "ways", "turned_by", "turned_of", "uneven_of", "is_even", "first_uneven", "steps_of", "steps", "_law_cell_at", "_law_pot", "_law_take", "_law_whole", "_law_same", "_law_turned", "_law_row", "_law_is_row", "_law_odd", "_law_bent_row", "_law_kind_of", "_law_told_by", "_law_told", "_law_due", "FaceError", "NoNet", "NoFace", "NoPoint"] : List Str) ++ (["NotApart", "TooMany", "NoText", "NoRow", "NoNumber", "NotLevel", "NoCrowd", "NoWay", "NotClosed", "NoSwap", "NoPlaces", "NoDeed", "NoLine", "MOST_LONG"] : List Str)
end K12
set_option maxHeartbeats 0
namespace K12
open Fc PySem PySem.Spec PyProof.Rows L2
abbrev RR : PySem.W.OpenRow := PySem.W.OpenLaw.row PySem.Challenge.rw_facecounts_k12_even_rows_and_steps
def qK (K : PySem.W.Frag) : Bool := ecHot hot cls K && (K.lookup sysModules).isSome
abbrev hk : PySem.W.Hook := hookX 4 qK (faOf fx cls cst fre) (Fc.fnOf fx)
def ob (s : PySem.W.SharedT) : AlX := obsXG 4 qK (faOf fx cls cst fre) (Fc.fnOf fx) (HandSHeadRun.getT s)
theorem ob_eq (s : PySem.W.SharedT) : ob s = hk.obs s.abs := obsXG_eq (HandSHeadRun.getT_eq s)
theorem run (w : World) : HandSHeadRun.RunEq RR (PySem.W.view RR.prog [48]) hk ob 20000 loose w := by
  intro os
  kernel_rfl
theorem chk : fx.all (fxOk (gOf fx cls cst fre hot)) = true := by decide +kernel
theorem chkH : hotOk (gOf fx cls cst fre hot) fx = true := by decide +kernel
theorem nok : noOk fx cls = true := by decide +kernel
theorem rq : Fc.K12.Rq_law (progOf fx) := by
  repeat' apply And.intro
  all_goals rfl
theorem pure_law (ns : List Int) (h : ns.length ≤ 63) : dFun (progOf fx) 12 162 [.scr ns] = .ok (.dat (.bool true)) [] := Fc.K12.p_law rq ns 12 (by decide)
theorem facts {P : Program} {w : World} {K : PySem.W.Frag} {h : Heap} {mg : Str → Option Value} {f : Addr} (X : K.In h) (G : h.Ns mainGlobals mg) (hfa : mg ("law" : Str) = some (.ref f)) (hq : qK K = true) (c : He.SaysD (faOf fx cls cst fre) (Fc.fnOf fx) K) :
    ∃ fd : FuncData, (∀ (s : Shared) (v : Value), BindsTo s fd ⟨[v], []⟩ [("_law_script", v)]) ∧ ∀ base : Heap, K.In base → base.Ns mainGlobals mg → FnG P w K mg base (CXw P) 12 f fd ["_law_script"] (spF K (U0 (faA fx K) (eaA cls K)) (dFun (progOf fx) 12) 162) := by
  unfold qK at hq
  rw [Bool.and_eq_true] at hq
  have T := top_of X G c nok chk chkH hq.1 hq.2
  obtain ⟨fd, FD⟩ := T.fn 162 x_law rfl
  obtain ⟨d, _, e⟩ := T.gl "law" 162 (by decide +kernel)
  rw [hfa] at e
  cases e
  have b := FD.bindsA fun _ _ _ _ _ _ us hl => bindArgs_plain (ps := ["_law_script"]) (by decide +kernel) us hl
  exact ⟨fd, fun s v => b s [v] rfl, fun base _ _ => Fc.FnG.cxw (fun_ok T 12 162 x_law fd rfl FD)⟩
end K12
open PySem PySem.W PySem.Calls PyProof.Rows
theorem PySem.Challenge.cw_facecounts_k12_even_rows_and_steps_holds : PySem.Challenge.rw_facecounts_k12_even_rows_and_steps.Holds := by
  w_on; o_law
  refine HandSHeadRun.head_any (r := K12.RR) (q := view K12.RR.prog [48]) (H := K12.hk) (ob := K12.ob) (M := 20000) (loose := K12.loose) (d := HandSHeadRun.topDef K12.RR.prog 48) (kwd := []) K12.ob_eq
    (by kernel_rfl) (fun s => by kernel_rfl) K12.run (by kernel_rfl) (by kernel_rfl) (by kernel_rfl) (by rfl) (by first | assumption | decide +kernel) (by decide +kernel) ⟨rfl, rfl, rfl, rfl, rfl, by decide +kernel⟩ ?hw ?hc
  case hw => w_witness2
  case hc =>
    refine Fc.walkG (l := PySem.Challenge.rw_facecounts_k12_even_rows_and_steps) (n := 63) (k := 12) (x := "_law_script") (CX := Fc.CXw PySem.Challenge.rw_facecounts_k12_even_rows_and_steps.prog) rfl (by decide) (by kernel_rfl) ⟨rfl, by decide, by decide⟩ ?F (Fc.cx_no)
    intro w mg fa h Y G hmg0
    obtain ⟨K, KX, hq, c⟩ := Y
    have hmg : mg ("law" : PySem.Str) = some (.ref fa) := by
      have e : (HandSHeadRun.topDef K12.RR.prog 48).name = ("law" : PySem.Str) := by kernel_rfl
      rw [← e]
      exact hmg0
    obtain ⟨fd, hb, hF⟩ := K12.facts (P := (PySem.Challenge.rw_facecounts_k12_even_rows_and_steps).prog) (w := w) KX G hmg hq c
    exact ⟨K, fd, _, KX, hb, fun H a ns hl hS => Fc.law_sp hS (K12.pure_law ns hl), hF⟩

import PyProof.Rows.All
import Wide.All
import OpenK.AllK
import Wide.FinOn
import HandS.ForExc
import HandS.Text
import HandS.StrMore
import KE.SortData
import KE.DataCmp
import KE.DataMinMax
import HandS.Comp
import HandS.Dict
import HandS.Iter
import HandS.Wide
import HandS.TupAny
import HandS.TupMul
import HandS.Deep
import HandS.Steps
import HandS.TupLe
import HandS.IsInst
import HandS.Zip
import PyProof.Draws
import HandS.Defaults
import HandS.List
import HandS.TupLen
import HandS.WordsDict
import HandS.WideBits
import HandS.Conv
import HandS.More
import KE.KDictSum
import HandS.SetFor
import HandS.Strs
import KE.KDictZip
import KE.KItemsList
import HandS.ExcValue
import HandS.Style
import HandS.Head0
import HandS.Head1
import HandS.Head2
import HandS.HeadEnd
import HandS.HeadHook1
import HandS.HeadHook2
import HandS.HeadHook4
import KE.KStateDown
import PySem.Challenge.RW_coinlaw_k84_whole_two_roads_differ_by_ro
set_option Elab.async false
/-! ## MpCore -/
section
set_option linter.all false
set_option maxRecDepth 100000
/-! Mp: a small language of expressions and statements over pure data, and its run. -/
namespace Mp
open PySem

/-! ### data -/
abbrev D := PyData
/-- what a slot holds: pure data, or a list, a dict of the slot's own -/
inductive O where
  | v (d : D)
  | lst (xs : List D)
  | dct (kvs : List (D × D))
  deriving Inhabited
def O.d : O → D
  | .v d => d
  | .lst xs => .list xs
  | .dct kvs => .dict kvs
abbrev En := List (Option O)
def En.at (r : En) (i : Nat) : Option O := (r[i]?).join
/-- the most items that a list may have -/
def SZ : Nat := 16777216

/-! ### operators -/
inductive BOp where
  | add | sub | mul | fdv | mod | pow | shl | shr | band
  deriving DecidableEq, Inhabited, Repr
inductive COp where
  | eq | ne | lt | le | gt | ge | is | isn | isin | nin
  deriving DecidableEq, Inhabited, Repr
inductive Ty where
  | int | bool | str | tuple | list | dict
  deriving DecidableEq, Inhabited, Repr
/-- built-in functions -/
inductive Bl where
  | abs | len | int | str | sum | all | any | min1 | max1 | min2 | max2 | sorted | tuple | list | dict | repr | divmod | setsorted | setlen | listzip | listitems | minvals | maxvals | bool
  deriving DecidableEq, Inhabited, Repr
/-- methods of built-in types that change nothing -/
inductive Mt where
  | get | partition | split | join | zfill | values | count | index | upper
  deriving DecidableEq, Inhabited, Repr
inductive Tg where
  | nm (i : Nat)
  | tp (ts : List Tg)
  deriving Inhabited

mutual
inductive CE where
  | cst (d : D)
  | nm (i : Nat)
  | bin (op : BOp) (a b : CE)
  | neg (a : CE)
  | not (a : CE)
  | cmp (op : COp) (a b : CE)
  | chn (op1 op2 : COp) (a b c : CE)
  | and (a b : CE)
  | or (a b : CE)
  | ife (c a b : CE)
  | tup (es : List CE)
  | lst (es : List CE)
  | dct (es : List CE)
  | idx (a b : CE)
  | slc (a : CE) (lo hi : Option CE)
  | stp (a : CE) (lo : Option CE) (step : Int)
  | cal (f : Nat) (es ks : List CE) (sel : List (Nat ⊕ D))
  | blt (b : Bl) (es : List CE)
  | mth (m : Mt) (o : CE) (es : List CE)
  | isi (t : Ty) (e : CE)
  | lc (own : List Nat) (elt : CE) (tg : Tg) (it : It) (ifs : List CE)
  | dc (own : List Nat) (k v : CE) (tg : Tg) (it : It) (ifs : List CE)
  | pop (x : Nat) (e : Option CE)
  | app (x : Nat) (e : CE)
  | ext (x : Nat) (e : CE)
  | upd (x : Nat) (e : CE)
  | fst (es : List CE)
inductive It where
  | sq (e : CE)
  | rng (lo hi : CE)
  | enm (e : CE)
  | zip (a b : CE)
  | zpz (a b c : CE)
  | itm (e : CE)
  | vls (e : CE)
end
instance : Inhabited CE := ⟨.cst .none⟩

inductive CS where
  | asg (tg : Tg) (e : CE)
  | par (is : List Nat) (es : List CE)
  | aug (i : Nat) (op : BOp) (e : CE)
  | sti (x : Nat) (i e : CE)
  | agi (x : Nat) (i : CE) (op : BOp) (e : CE)
  | exp (e : CE)
  | ret (e : Option CE)
  | iff (c : CE) (a b : List CS)
  | for (tg : Tg) (it : It) (body : List CS)
  | whl (c : CE) (body : List CS)
  | brk | cnt | pas | nev
  deriving Inhabited

/-! ### what operators make of data -/
def okE (d : D) : Bool := decide (d.depth ≤ 64)
mutual
def noDict : D → Bool
  | .list xs | .tuple xs => noDictAll xs
  | .dict _ => false
  | _ => true
def noDictAll : List D → Bool
  | [] => true
  | x :: xs => noDict x && noDictAll xs
end
def eqP (a b : D) : Option Bool := if (okE a && noDict a) && (okE b && noDict b) then some (PyData.eqv a b) else none
/-- the items of a list or tuple -/
def seqD : O → Option (List D)
  | .lst xs => some xs
  | .v (.list xs) => some xs
  | .v (.tuple xs) => some xs
  | _ => none
def lstO : O → Option (List D)
  | .lst xs => some xs
  | .v (.list xs) => some xs
  | _ => none
def dctO : O → Option (List (D × D))
  | .dct kvs => some kvs
  | .v (.dict kvs) => some kvs
  | _ => none
def szL (xs : List D) : Option (List D) := if xs.length ≤ SZ then some xs else none
def szS (s : Str) : Option Str := if s.length ≤ SZ then some s else none
def mulOk (i j : Int) : Bool := decide (i.natAbs.log2 + j.natAbs.log2 < 1000000)
def divOk (j : Int) : Bool := decide (0 < j) && decide (j.natAbs.log2 < 9000)
def powOk (i j : Int) : Bool := decide (0 ≤ j) && decide (j ≤ 1000000) && decide (i.natAbs.log2 < 63)
def repL (xs : List D) (k : Int) : List D := (List.replicate k.toNat xs).flatten
/-- int of a bool or int -/
def numB : Bool → Int
  | true => 1
  | false => 0
def addO : O → O → Option O
  | .v (.int i), .v (.int j) => some (.v (.int (i + j)))
  | .v (.str x), .v (.str y) => if x.length + y.length ≤ SZ then some (.v (.str (x ++ y))) else none
  | .v (.tuple xs), .v (.tuple ys) => if xs.length + ys.length ≤ SZ then some (.v (.tuple (xs ++ ys))) else none
  | a, b => match lstO a, lstO b with
    | some xs, some ys => if xs.length + ys.length ≤ SZ then some (.lst (xs ++ ys)) else none
    | _, _ => none
def mulO : O → O → Option O
  | .v (.int i), .v (.int j) => if mulOk i j then some (.v (.int (i * j))) else none
  | .v (.tuple xs), .v (.int k) => if (decide (2 ≤ k) && decide (k ≤ 1000)) && (decide (xs.length ≤ 1000) && !xs.isEmpty) then some (.v (.tuple (repL xs k))) else none
  | .lst xs, .v (.int k) => if (decide (0 ≤ k) && decide (k ≤ 1000)) && decide (xs.length ≤ 1000) then some (.lst (repL xs k)) else none
  | _, _ => none
/-- two ints in, an int out -/
def intsO (c : Int → Int → Bool) (f : Int → Int → Int) : O → O → Option O
  | .v (.int i), .v (.int j) => if c i j then some (.v (.int (f i j))) else none
  | _, _ => none
def binO : BOp → O → O → Option O
  | .add => addO
  | .sub => intsO (fun _ _ => true) fun i j => i - j
  | .mul => mulO
  | .fdv => intsO (fun _ j => divOk j) fun i j => i / j
  | .mod => intsO (fun _ j => decide (0 < j)) fun i j => i % j
  | .pow => intsO powOk fun i j => i ^ j.toNat
  | .shl => intsO powOk fun i j => i * 2 ^ j.toNat
  | .shr => intsO (fun _ j => decide (0 ≤ j)) fun i j => i / 2 ^ j.toNat
  | .band => intsO (fun _ _ => true) fun i j => Builtin.bitAnd i j
/-! < of numbers, texts, tuples of such -/
def ltO : D → D → Option Bool
  | .int i, .int j => some (decide (i < j))
  | .str x, .str y => some (decide (x.cps.toList < y.cps.toList))
  | .tuple xs, .tuple ys => if PySem.W.alike (.tuple xs) (.tuple ys) && ((okE (.tuple xs) && okE (.tuple ys)) && (noDictAll xs && noDictAll ys)) then some (PySem.W.dataLt (.tuple xs) (.tuple ys)) else none
  | _, _ => none
def gtO : D → D → Option Bool
  | .int i, .int j => some (decide (j < i))
  | .str x, .str y => some (decide (y.cps.toList < x.cps.toList))
  | _, _ => none
def memD (x : D) (xs : List D) : Option Bool := if (okE x && noDict x) && noDictAll xs then some (xs.any fun y => PyData.eqv y x) else none
/-- a dict's key: a number, a text, a tuple of such -/
def keyF : D → Bool
  | .int _ => true
  | .str _ => true
  | _ => false
def keyD : D → Bool
  | .int _ => true
  | .str _ => true
  | .tuple ks => ks.all keyF
  | _ => false
def getK : List (D × D) → D → Option D
  | [], _ => none
  | (a, b) :: r, k => if PyData.eqv a k then some b else getK r k
def putK (kvs : List (D × D)) (k v : D) : List (D × D) := if (kvs.any fun p => PyData.eqv p.1 k) = true then kvs.map (fun p => if PyData.eqv p.1 k = true then (p.1, v) else p) else kvs ++ [(k, v)]
def mrg : List (D × D) → List (D × D) → List (D × D)
  | m, [] => m
  | m, (k, v) :: r => mrg (putK m k v) r
def pairUp : List D → Option (List (D × D))
  | [] => some []
  | k :: v :: r => if keyD k then (pairUp r).map ((k, v) :: ·) else none
  | _ => none
def isNn : D → Bool
  | .none => true
  | _ => false
def isO : D → D → Option Bool
  | x, .none => some (isNn x)
  | .bool a, .bool b => some (decide (a = b))
  | _, _ => none
def notB : Option Bool → Option Bool
  | some b => some (!b)
  | none => none
def occ (x s : Str) : Bool := !(Builtin.Str.occurrences s x 0 s.length 1).isEmpty
def eqO (a b : O) : Option Bool := eqP a.d b.d
/-- the kinds of keys that stand in a dict -/
def tupK : D → Bool
  | .tuple _ => true
  | _ => false
/-- a key that may be looked for: of the kind of those that stand there -/
def kOk (kvs : List (D × D)) (k : D) : Bool := keyD k && kvs.all fun p => tupK p.1 == tupK k
def inO (a : O) (b : O) : Option Bool :=
  match a, b with
  | .v (.str x), .v (.str s) => some (occ x s)
  | .v k, o => match dctO o with
    | some kvs => if kOk kvs k then some (getK kvs k).isSome else none
    | none => match seqD o with
      | some xs => memD k xs
      | none => none
  | _, _ => none
def isOO : O → O → Option Bool
  | .v a, .v b => isO a b
  | _, .v .none => some false
  | _, _ => none
def leO : O → O → Option Bool
  | .v (.int i), .v (.int j) => some (decide (i ≤ j))
  | _, _ => none
def geO : O → O → Option Bool
  | .v (.int i), .v (.int j) => some (decide (j ≤ i))
  | _, _ => none
def cmpO (op : COp) (a b : O) : Option Bool := match op with
  | .eq => eqO a b
  | .ne => notB (eqO a b)
  | .lt => ltO a.d b.d
  | .gt => gtO a.d b.d
  | .le => leO a b
  | .ge => geO a b
  | .is => isOO a b
  | .isn => notB (isOO a b)
  | .isin => inO a b
  | .nin => notB (inO a b)
def ixI (n : Nat) (i : Int) : Option Nat := if 0 ≤ i then (if i < n then some i.toNat else none) else if -(n : Int) ≤ i then some (i + n).toNat else none
def idxO (a b : O) : Option O :=
  match a, b with
  | .v (.str s), .v (.int i) => do
    let j ← ixI s.length i
    let c ← s.cps.toList[j]?
    some (.v (.str ⟨#[c]⟩))
  | a, .v b => match dctO a with
    | some kvs => if kOk kvs b then (getK kvs b).map .v else none
    | none => match seqD a, b with
      | some xs, .int i => do
        let j ← ixI xs.length i
        let x ← xs[j]?
        some (.v x)
      | _, _ => none
  | _, _ => none
def sIx (n d : Nat) : Option Int → Nat
  | none => d
  | some v => if v < 0 then (v + (n : Int)).toNat else min v.toNat n
def cutL {α : Type} (xs : List α) (lo hi : Option Int) : List α := (xs.drop (sIx xs.length 0 lo)).take (sIx xs.length xs.length hi - sIx xs.length 0 lo)
def slcO (a : O) (lo hi : Option Int) : Option O :=
  match a with
  | .v (.str s) => some (.v (.str ⟨(cutL s.cps.toList lo hi).toArray⟩))
  | .v (.tuple xs) => some (.v (.tuple (cutL xs lo hi)))
  | o => (lstO o).map fun xs => .lst (cutL xs lo hi)
def evens : List D → List D
  | [] => []
  | [x] => [x]
  | x :: _ :: r => x :: evens r
def stpO (a : O) (lo : Option Int) (st : Int) : Option O :=
  match st, lo, a with
  | -1, none, .v (.tuple xs) => some (.v (.tuple xs.reverse))
  | -1, none, o => (lstO o).map fun xs => .lst xs.reverse
  | 2, none, o => (lstO o).map fun xs => .lst (evens xs)
  | 2, some 1, o => (lstO o).map fun xs => .lst (evens (xs.drop 1))
  | _, _, _ => none

/-! ### built-in functions -/
def intsOf : List D → Option (List Int)
  | [] => some []
  | .int i :: r => (intsOf r).map (i :: ·)
  | _ :: _ => none
def boolsOf : List D → Option (List Bool)
  | [] => some []
  | .bool b :: r => (boolsOf r).map (b :: ·)
  | _ :: _ => none
def strsOf : List D → Option (List Str)
  | [] => some []
  | .str b :: r => (strsOf r).map (b :: ·)
  | _ :: _ => none
def maxI : List Int → Option Int
  | [] => none
  | x :: r => some (r.foldl max x)
def minI : List Int → Option Int
  | [] => none
  | x :: r => some (r.foldl min x)
/-- all items can be compared -/
def allAlike (xs : List D) : Bool := xs.all fun x => xs.all fun y => PySem.W.alike x y
def headed : D → Bool
  | .tuple (_ :: _) => true
  | _ => false
def flat1 : D → Bool
  | .int _ => true
  | .str _ => true
  | _ => false
/-- the sorted list: stable, by < -/
def sortD (xs : List D) : Option (List D) := if (allAlike xs && (xs.all headed || xs.all flat1)) && (xs.all okE && noDictAll xs) then some (xs.mergeSort (PySem.W.dataLe false id)) else none
def dedup : List D → List D
  | [] => []
  | x :: r => x :: (dedup r).filter fun y => !PyData.eqv x y
def pairsOf : List D → Option (List (D × D))
  | [] => some []
  | .tuple [k, v] :: r => if keyD k then (pairsOf r).map ((k, v) :: ·) else none
  | _ :: _ => none
def zipD : List D → List D → List D
  | x :: xs, y :: ys => .tuple [x, y] :: zipD xs ys
  | _, _ => []
def tupO : O → Option (List D)
  | .v (.tuple xs) => some xs
  | _ => none
/-- two lists, or two tuples -/
def zipO (o p : O) : Option (List D) := match lstO o, lstO p with
  | some xs, some ys => some (zipD xs ys)
  | _, _ => match tupO o, tupO p with
    | some xs, some ys => some (zipD xs ys)
    | _, _ => none
def itmD (kvs : List (D × D)) : List D := kvs.map fun p => .tuple [p.1, p.2]
/-- repr of numbers, texts, tuples, lists -/
def digs (i : Int) : Str := toString i
def lenO (o : O) : Option Int := match o with
  | .v (.str s) => some s.length
  | o => match dctO o with
    | some kvs => some kvs.length
    | none => (seqD o).map fun xs => (xs.length : Int)
/-- of two the lesser, the greater -/
def min2O : O → O → Option O
  | .v (.int i), .v (.int j) => some (.v (.int (if j < i then j else i)))
  | .v (.str x), .v (.str y) => some (.v (.str (if y.cps.toList < x.cps.toList then y else x)))
  | _, _ => none
def max2O : O → O → Option O
  | .v (.int i), .v (.int j) => some (.v (.int (if j > i then j else i)))
  | .v (.str x), .v (.str y) => some (.v (.str (if x.cps.toList < y.cps.toList then y else x)))
  | _, _ => none
def one (f : O → Option O) : List O → Option O
  | [o] => f o
  | _ => none
def two (f : O → O → Option O) : List O → Option O
  | [o, p] => f o p
  | _ => none
def absO : O → Option O
  | .v (.int i) => some (.v (.int (if i < 0 then -i else i)))
  | _ => none
def intB : O → Option O
  | .v (.int i) => some (.v (.int i))
  | .v (.bool b) => some (.v (.int (if b then 1 else 0)))
  | _ => none
/-- of a list of ints, of bools -/
def onInts (f : List Int → Option O) (o : O) : Option O := match lstO o with
  | some xs => match intsOf xs with
    | some is => f is
    | none => none
  | none => none
def onBools (f : List Bool → Bool) (o : O) : Option O := match lstO o with
  | some xs => (boolsOf xs).map fun bs => .v (.bool (f bs))
  | none => none
/-- a dict's key: its texts are texts of the model -/
def keyS : D → Bool
  | .str s => PyData.strOk s && decide (s.length ≤ SZ)
  | .tuple ks => (ks.all fun k => match k with
    | .str s => PyData.strOk s && decide (s.length ≤ SZ)
    | _ => true) && decide (ks.length ≤ SZ)
  | _ => true
def sortO (o : O) : Option O := match dctO o with
  | some kvs => if kvs.all fun p => keyS p.1 then (sortD (kvs.map (·.1))).map .lst else none
  | none => match lstO o with
    | some xs => (sortD xs).map .lst
    | none => none
def setI (is : List Int) : Option O := if is.length < 64 then some (.lst ((is.eraseDups.mergeSort fun a b => decide (a ≤ b)).map .int)) else none
def dmO : O → O → Option O
  | .v (.int i), .v (.int j) => if divOk j then some (.v (.tuple [.int (i / j), .int (i % j)])) else none
  | _, _ => none
def blO : Bl → List O → Option O
  | .abs => one absO
  | .len => one fun o => (lenO o).map fun n => .v (.int n)
  | .int => one intB
  | .sum => one (onInts fun is => some (.v (.int is.sum)))
  | .all => one (onBools fun bs => bs.all id)
  | .any => one (onBools fun bs => bs.any id)
  | .min1 => one (onInts fun is => (minI is).map fun m => .v (.int m))
  | .max1 => one (onInts fun is => (maxI is).map fun m => .v (.int m))
  | .min2 => two min2O
  | .max2 => two max2O
  | .sorted => one sortO
  | .setsorted => one (onInts setI)
  | .tuple => one fun o => (seqD o).map fun xs => .v (.tuple xs)
  | .list => one fun o => (seqD o).map .lst
  | .divmod => two dmO
  | .listzip => two fun o p => (tupO o).bind fun xs => (tupO p).map fun ys => .lst (zipD xs ys)
  | _ => fun _ => none
def mtO : Mt → O → List O → Option O
  | .get, o, [.v k, .v x] => (dctO o).bind fun kvs => if kOk kvs k then some (.v ((getK kvs k).getD x)) else none
  | _, _, _ => none
def isiD : Ty → D → Bool
  | .int, .int _ => true
  | .int, .bool _ => true
  | .bool, .bool _ => true
  | .str, .str _ => true
  | .tuple, .tuple _ => true
  | .list, .list _ => true
  | .dict, .dict _ => true
  | _, _ => false
def strD : D → Option Str
  | .str s => some s
  | .int i => if i.natAbs.log2 < 1920 then some (digs i) else none
  | _ => none
def joinS : List D → Option Str
  | [] => some Str.empty
  | d :: r => do
    let s ← strD d
    let t ← joinS r
    if s.length + t.length ≤ SZ then some (s ++ t) else none

/-! ### targets -/
mutual
def asgT : Tg → D → En → Option En
  | .nm i, d, r => some (r.set i (some (.v d)))
  | .tp ts, .tuple ds, r => asgTs ts ds r
  | .tp _, _, _ => none
def asgTs : List Tg → List D → En → Option En
  | [], [], r => some r
  | t :: ts, d :: ds, r => (asgT t d r).bind (asgTs ts ds)
  | _, _, _ => none
end
def wipe (r : En) : List Nat → En
  | [] => r
  | i :: is => (wipe r is).set i none
/-- the slots at is as they stood -/
def back (r0 : En) (r : En) : List Nat → En
  | [] => r
  | i :: is => (back r0 r is).set i (r0.at i)

/-! ### the run -/
abbrev Ga := Nat → List O → Option (O × List O)
inductive Ar where
  | v (o : O)
  | s (i : Nat)
  deriving Inhabited
def rdA (r : En) : Ar → Option O
  | .v o => some o
  | .s i => r.at i
def rdAs (r : En) : List Ar → Option (List O)
  | [] => some []
  | a :: as => do
    let o ← rdA r a
    let os ← rdAs r as
    some (o :: os)
/-- an argument: a bare name is read when all are reckoned -/
def arB (a : CE) (k : Option (O × En)) (r : En) : Option (Ar × En) := match a with
  | .nm i => match r.at i with
    | some _ => some (.s i, r)
    | none => none
  | _ => match k with
    | some (o, r') => some (.v o, r')
    | none => none
/-- an argument of a def: a bare name is handed as it is, all else is pure -/
def arC (a : CE) (k : Option (O × En)) (r : En) : Option (Ar × En) := match a with
  | .nm i => match r.at i with
    | some _ => some (.s i, r)
    | none => none
  | _ => match k with
    | some (o, r') => some (.v (.v o.d), r')
    | none => none
def isOwn : O → Bool
  | .v _ => false
  | _ => true
/-- what stands behind the arguments by place: a keyword's value, or a default -/
def selK (ds : List D) : List (Nat ⊕ D) → Option (List D)
  | [] => some []
  | .inl k :: r => do
    let o ← ds[k]?
    let t ← selK ds r
    some (o :: t)
  | .inr d :: r => do
    let t ← selK ds r
    some (d :: t)
/-- an argument as it is handed: a value of no slot is pure -/
def hand (r : En) : List Ar → Option (List O)
  | [] => some []
  | .v o :: as => do
    let t ← hand r as
    some (.v o.d :: t)
  | .s i :: as => do
    let o ← r.at i
    let t ← hand r as
    some (o :: t)
/-- the slots that are handed in and may be changed -/
def ownSl (r : En) : List Ar → List Nat
  | [] => []
  | .v _ :: as => ownSl r as
  | .s i :: as => match r.at i with
    | some o => if isOwn o then i :: ownSl r as else ownSl r as
    | none => ownSl r as
/-- what a call leaves of the slots handed in -/
def putB (r0 : En) : List Ar → List O → En → En
  | .s i :: as, o :: os, r => match r0.at i with
    | some q => if isOwn q then putB r0 as os (r.set i (some o)) else putB r0 as os r
    | none => putB r0 as os r
  | .v _ :: as, _ :: os, r => putB r0 as os r
  | _, _, r => r
/-- only where no slot is handed twice -/
def nodO {α : Type} (is : List Nat) (q : Option α) : Option α := if is.Nodup then q else none
/-- the slot has a list of its own -/
def isLst (r : En) (x : Nat) : Option Unit := match r.at x with
  | some (.lst _) => some ()
  | _ => none
def lcLoop (f : D → En → Option (Option D × En)) : List D → En → Option (List D × En)
  | [], r => some ([], r)
  | x :: xs, r => do
    let (y, r) ← f x r
    let (ys, r) ← lcLoop f xs r
    some (match y with | some d => d :: ys | none => ys, r)
def strL (s : Str) : List D := s.cps.toList.map fun c => .str ⟨#[c]⟩
def itO (o : O) : Option (List D) := match o with
  | .v (.str s) => some (strL s)
  | o => seqD o
def rngD (lo hi : Int) : List D := (List.range (hi - lo).toNat).map fun (i : Nat) => .int (lo + i)
def enmD (xs : List D) (n : Nat) : List D := match xs with
  | [] => []
  | x :: r => .tuple [.int n, x] :: enmD r (n + 1)
/-- an argument that is walked: a list of a slot's own is the slot's own no more -/
def frA (r : En) : Ar → En
  | .v _ => r
  | .s i => match r.at i with
    | some o => r.set i (some (.v o.d))
    | none => r
def bolO : O → Option Bool
  | .v (.bool b) => some b
  | _ => none
def intO : O → Option Int
  | .v (.int i) => some i
  | _ => none
/-- a list of one's own, changed -/
def ixSet (xs : List D) (i : Int) (v : D) : Option (List D) := (ixI xs.length i).map fun j => xs.set j v
def setO (o : O) (i v : D) : Option O := match o, i with
  | .lst xs, .int k => (ixSet xs k v).map .lst
  | .dct kvs, k => if (kOk kvs k && !tupK k) && decide (kvs.length < SZ) then some (.dct (putK kvs k v)) else none
  | _, _ => none
/-- a dict's item at a tuple that is written there -/
def setT (o : O) (i v : D) : Option O := match o with
  | .dct kvs => if kOk kvs i && decide (kvs.length < SZ) then some (.dct (putK kvs i v)) else none
  | _ => none
def popO (o : O) : Option D → Option (D × O)
  | none => match o with
    | .lst xs => xs.getLast?.map fun x => (x, .lst xs.dropLast)
    | _ => none
  | some (.int i) => match o with
    | .lst xs => (ixI xs.length i).bind fun j => xs[j]?.map fun x => (x, .lst (xs.eraseIdx j))
    | _ => none
  | some _ => none
mutual
def ev (g : Ga) : CE → En → Option (O × En)
  | .cst d, r => some (.v d, r)
  | .nm i, r => match r.at i with
    | some (.v d) => some (.v d, r)
    | some o => some (.v o.d, r.set i (some (.v o.d)))
    | none => none
  | .bin op a b, r => do
    let (x, r) ← arB a (ev g a r) r
    let (y, r) ← arB b (ev g b r) r
    let o ← rdA r x
    let p ← rdA r y
    let q ← binO op o p
    some (q, r)
  | .neg a, r => do
    let (x, r) ← ev g a r
    let i ← intO x
    some (.v (.int (-i)), r)
  | .not a, r => do
    let (x, r) ← ev g a r
    let b ← bolO x
    some (.v (.bool (!b)), r)
  | .cmp op a b, r => do
    let (x, r) ← arB a (ev g a r) r
    let (y, r) ← arB b (ev g b r) r
    let o ← rdA r x
    let p ← rdA r y
    let q ← cmpO op o p
    some (.v (.bool q), r)
  | .chn op1 op2 a b c, r => do
    let (x, r) ← ev g a r
    let (y, r) ← ev g b r
    let q ← cmpO op1 x y
    match q with
    | false => some (.v (.bool false), r)
    | true => do
      let (z, r) ← ev g c r
      let q ← cmpO op2 y z
      some (.v (.bool q), r)
  | .and a b, r => do
    let (x, r) ← ev g a r
    let q ← bolO x
    match q with
    | false => some (.v (.bool false), r)
    | true => ev g b r
  | .or a b, r => do
    let (x, r) ← ev g a r
    let q ← bolO x
    match q with
    | false => ev g b r
    | true => some (.v (.bool true), r)
  | .ife c a b, r => do
    let (x, r) ← ev g c r
    let q ← bolO x
    match q with
    | true => ev g a r
    | false => ev g b r
  | .tup es, r => do
    let (ds, r) ← evs g es r
    some (.v (.tuple ds), r)
  | .lst es, r => do
    let (ds, r) ← evs g es r
    some (.lst ds, r)
  | .dct es, r => do
    let (ds, r) ← evs g es r
    let ps ← pairUp ds
    some (.dct (mrg [] ps), r)
  | .idx a b, r => do
    let (x, r) ← arB a (ev g a r) r
    let (y, r) ← ev g b r
    let o ← rdA r x
    let q ← idxO o (.v y.d)
    some (q, r)
  | .slc a lo hi, r => do
    let (x, r) ← arB a (ev g a r) r
    let (i, r) ← evo g lo r
    let (j, r) ← evo g hi r
    let o ← rdA r x
    let q ← slcO o i j
    some (q, r)
  | .stp a lo st, r => do
    let (x, r) ← arB a (ev g a r) r
    let (i, r) ← evo g lo r
    let o ← rdA r x
    let q ← stpO o i st
    some (q, r)
  | .cal f es ks sel, r => do
    let (as, r) ← evac g es r
    let (ds, r) ← evs g ks r
    let os ← hand r as
    let rest ← selK ds sel
    let (o, os') ← nodO (ownSl r as) (g f (os ++ rest.map .v))
    some (o, putB r as os' r)
  | .blt b es, r => do
    let (as, r) ← evas g es r
    let os ← rdAs r as
    let q ← blO b os
    some (q, r)
  | .mth m a es, r => do
    let (x, r) ← arB a (ev g a r) r
    let o ← rdA r x
    let _ ← dctO o
    let (as, r) ← evas g es r
    let o ← rdA r x
    let os ← rdAs r as
    let q ← mtO m o os
    some (q, r)
  | .isi t a, r => do
    let (x, r) ← arB a (ev g a r) r
    let o ← rdA r x
    some (.v (.bool (isiD t o.d)), r)
  | .lc own elt tg it ifs, r => do
    let (xs, r1) ← evit g it r
    let (ys, r2) ← lcLoop (fun x r => do
      let r ← asgT tg x (wipe r own)
      let (c, r) ← evc g ifs r
      match c with
      | false => some (none, r)
      | true => do
        let (y, r) ← ev g elt r
        some (some y.d, r)) xs (wipe r1 own)
    some (.lst ys, back r1 r2 own)
  | .dc own k v tg it ifs, r => do
    let (xs, r1) ← evit g it r
    let (ys, r2) ← lcLoop (fun x r => do
      let r ← asgT tg x (wipe r own)
      let (c, r) ← evc g ifs r
      match c with
      | false => some (none, r)
      | true => do
        let (y, r) ← ev g k r
        let (z, r) ← ev g v r
        some (some (.tuple [y.d, z.d]), r)) xs (wipe r1 own)
    let ps ← pairsOf ys
    some (.dct (mrg [] ps), back r1 r2 own)
  | .pop x e, r => do
    let _ ← isLst r x
    let (i, r) ← evod g e r
    let o ← r.at x
    let (d, o) ← popO o i
    some (.v d, r.set x (some o))
  | .app x e, r => do
    let _ ← isLst r x
    let (y, r) ← ev g e r
    match r.at x with
    | some (.lst xs) => if xs.length < SZ then some (.v .none, r.set x (some (.lst (xs ++ [y.d])))) else none
    | _ => none
  | .ext x e, r => do
    let (a, r) ← arB e (ev g e r) r
    let o ← rdA r a
    let ys ← lstO o
    match r.at x with
    | some (.lst xs) => if xs.length + ys.length ≤ SZ then some (.v .none, r.set x (some (.lst (xs ++ ys)))) else none
    | _ => none
  | .upd x e, r => do
    let (a, r) ← arB e (ev g e r) r
    let o ← rdA r a
    let ps ← dctO o
    match r.at x with
    | some (.dct kvs) => if kvs.length + ps.length ≤ SZ then some (.v .none, r.set x (some (.dct (mrg kvs ps)))) else none
    | _ => none
  | .fst es, r => do
    let (ds, r) ← evs g es r
    let s ← joinS ds
    some (.v (.str s), r)
/-- values, from the left -/
def evs (g : Ga) : List CE → En → Option (List D × En)
  | [], r => some ([], r)
  | e :: es, r => do
    let (o, r) ← ev g e r
    let (ds, r) ← evs g es r
    some (o.d :: ds, r)
def evas (g : Ga) : List CE → En → Option (List Ar × En)
  | [], r => some ([], r)
  | e :: es, r => do
    let (a, r) ← arB e (ev g e r) r
    let (as, r) ← evas g es r
    some (a :: as, r)
def evac (g : Ga) : List CE → En → Option (List Ar × En)
  | [], r => some ([], r)
  | e :: es, r => do
    let (a, r) ← arC e (ev g e r) r
    let (as, r) ← evac g es r
    some (a :: as, r)
def evc (g : Ga) : List CE → En → Option (Bool × En)
  | [], r => some (true, r)
  | e :: es, r => do
    let (x, r) ← ev g e r
    let b ← bolO x
    match b with
    | false => some (false, r)
    | true => evc g es r
def evo (g : Ga) : Option CE → En → Option (Option Int × En)
  | none, r => some (none, r)
  | some e, r => do
    let (x, r) ← ev g e r
    let i ← intO x
    some (some i, r)
def evod (g : Ga) : Option CE → En → Option (Option D × En)
  | none, r => some (none, r)
  | some e, r => do
    let (x, r) ← ev g e r
    some (some x.d, r)
def evit (g : Ga) : It → En → Option (List D × En)
  | .sq e, r => do
    let (x, r) ← arB e (ev g e r) r
    let o ← rdA r x
    let xs ← itO o
    some (xs, frA r x)
  | .rng lo hi, r => do
    let (x, r) ← ev g lo r
    let i ← intO x
    let (y, r) ← ev g hi r
    let j ← intO y
    if decide (-(2 ^ 62) ≤ i) && decide (i < 2 ^ 62) && decide (-(2 ^ 62) ≤ j) && decide (j < 2 ^ 62) && decide ((j - i).toNat ≤ SZ) then some (rngD i j, r) else none
  | .enm e, r => do
    let (x, r) ← arB e (ev g e r) r
    let o ← rdA r x
    let xs ← seqD o
    some (enmD xs 0, frA r x)
  | .zip a b, r => do
    let (x, r) ← arB a (ev g a r) r
    let (y, r) ← arB b (ev g b r) r
    let o ← rdA r x
    let p ← rdA r y
    let zs ← zipO o p
    some (zs, frA (frA r x) y)
  | .zpz a b c, r => do
    let (x, r) ← arB a (ev g a r) r
    let (y, r) ← arB b (ev g b r) r
    let o ← rdA r x
    let p ← rdA r y
    let xs ← tupO o
    let ys ← tupO p
    let (z, r) ← arB c (ev g c r) r
    let q ← rdA r z
    let zs ← lstO q
    some (zipD (zipD xs ys) zs, frA r z)
  | .itm e, r => do
    let (x, r) ← arB e (ev g e r) r
    let o ← rdA r x
    let kvs ← dctO o
    some (itmD kvs, frA r x)
  | .vls e, r => do
    let (x, r) ← arB e (ev g e r) r
    let o ← rdA r x
    let kvs ← dctO o
    some (kvs.map (·.2), frA r x)
end

/-! ### statements -/
inductive Fl where
  | nx | rt (o : O) | bk | ct
  deriving Inhabited
mutual
def tgOk (pn : List Nat) : Tg → Bool
  | .nm i => !pn.contains i
  | .tp ts => tgsOk pn ts
def tgsOk (pn : List Nat) : List Tg → Bool
  | [] => true
  | t :: ts => tgOk pn t && tgsOk pn ts
end
def forLoop (f : D → En → Option (Fl × En)) : List D → En → Option (Fl × En)
  | [], r => some (.nx, r)
  | x :: xs, r => match f x r with
    | some (.nx, r) => forLoop f xs r
    | some (.ct, r) => forLoop f xs r
    | some (.bk, r) => some (.nx, r)
    | some (.rt o, r) => some (.rt o, r)
    | none => none
def whlLoop (c : En → Option (Bool × En)) (b : En → Option (Fl × En)) (r : En) : Option (Fl × En) :=
  match c r with
  | none => none
  | some (false, r) => some (.nx, r)
  | some (true, r) => match b r with
    | none => none
    | some (.bk, r) => some (.nx, r)
    | some (.rt o, r) => some (.rt o, r)
    | some (.nx, r) => whlLoop c b r
    | some (.ct, r) => whlLoop c b r
partial_fixpoint
def evOs (g : Ga) : List CE → En → Option (List O × En)
  | [], r => some ([], r)
  | e :: es, r => do
    let (o, r) ← ev g e r
    let (os, r) ← evOs g es r
    some (o :: os, r)
def setOs : List Nat → List O → En → Option En
  | [], [], r => some r
  | i :: is, o :: os, r => setOs is os (r.set i (some o))
  | _, _, _ => none
mutual
def ex (g : Ga) (pn : List Nat) : CS → En → Option (Fl × En)
  | .asg (.nm i) e, r => if pn.contains i then none else do
    let (o, r) ← ev g e r
    some (.nx, r.set i (some o))
  | .asg (.tp ts) e, r => if tgsOk pn ts then do
      let (o, r) ← ev g e r
      let r ← asgT (.tp ts) o.d r
      some (.nx, r)
    else none
  | .par is es, r => if is.any pn.contains || !decide is.Nodup then none else do
    let (os, r) ← evOs g es r
    let r ← setOs is os r
    some (.nx, r)
  | .aug _ _ _, _ => none
  | .sti x (.tup es) e, r => do
    let (y, r) ← ev g e r
    let _ ← r.at x
    let (ks, r) ← evs g es r
    let o ← r.at x
    let o ← setT o (.tuple ks) y.d
    some (.nx, r.set x (some o))
  | .sti x i e, r => do
    let (y, r) ← ev g e r
    let _ ← r.at x
    let (k, r) ← ev g i r
    let o ← r.at x
    let o ← setO o k.d y.d
    some (.nx, r.set x (some o))
  | .agi _ _ _ _, _ => none
  | .exp e, r => do
    let (_, r) ← ev g e r
    some (.nx, r)
  | .ret none, r => some (.rt (.v .none), r)
  | .ret (some (.nm i)), r => if pn.contains i then do
      let (o, r) ← ev g (.nm i) r
      some (.rt o, r)
    else do
      let o ← r.at i
      some (.rt o, r.set i none)
  | .ret (some e), r => do
    let (o, r) ← ev g e r
    some (.rt o, r)
  | .iff c a b, r => do
    let (x, r) ← ev g c r
    let q ← bolO x
    match q with
    | true => exs g pn a r
    | false => exs g pn b r
  | .for tg it body, r => do
    let (xs, r) ← evit g it r
    if tgOk pn tg then
      forLoop (fun x r => do
        let r ← asgT tg x r
        exs g pn body r) xs r
    else none
  | .whl c body, r => whlLoop (fun r => do
      let (x, r) ← ev g c r
      let q ← bolO x
      some (q, r)) (exs g pn body) r
  | .brk, r => some (.bk, r)
  | .cnt, r => some (.ct, r)
  | .pas, r => some (.nx, r)
  | .nev, _ => none
def exs (g : Ga) (pn : List Nat) : List CS → En → Option (Fl × En)
  | [], r => some (.nx, r)
  | s :: ss, r => match ex g pn s r with
    | some (.nx, r) => exs g pn ss r
    | some (.bk, r) => some (.bk, r)
    | some (.ct, r) => some (.ct, r)
    | some (.rt o, r) => some (.rt o, r)
    | none => none
end
/-- a def: how many parameters, how many slots, its body -/
structure Fd where
  np : Nat
  ns : Nat
  body : List CS
  deriving Inhabited
def ownIx : List O → Nat → List Nat
  | [], _ => []
  | o :: os, i => if isOwn o then i :: ownIx os (i + 1) else ownIx os (i + 1)
def outs (r : En) : List O → Nat → Option (List O)
  | [], _ => some []
  | o :: os, i => if isOwn o then do
      let q ← r.at i
      let t ← outs r os (i + 1)
      some (q :: t)
    else do
      let t ← outs r os (i + 1)
      some (o :: t)
def runF (g : Ga) (fd : Fd) (os : List O) : Option (O × List O) :=
  if os.length = fd.np then
    match exs g (ownIx os 0) fd.body (os.map some ++ List.replicate (fd.ns - fd.np) none) with
    | some (.nx, r) => (outs r os 0).map fun t => (.v .none, t)
    | some (.rt o, r) => (outs r os 0).map fun t => (o, t)
    | _ => none
  else none
def callD (fns : List Fd) : Nat → Ga
  | 0, _, _ => none
  | n + 1, f, os => match fns[f]? with
    | some fd => runF (callD fns n) fd os
    | none => none
end Mp
end

/-! ## MpComp -/
section
set_option linter.all false
set_option maxRecDepth 100000
/-! Mp: the text's trees as expressions and statements of the small language. -/
namespace Mp
open PySem
/-- a def as a caller sees it: its place, its parameters (those by position, those by name alone), defaults by name -/
structure Sg where
  ix : Nat
  ps : List Str
  pats : List (Nat × List Str)
  dfl : List (Str × D)
  deriving Inhabited
structure Ct where
  N : List Str
  gl : List (Str × D)
  fn : List (Str × Sg)
  cls : List Str
  deriving Inhabited
def ixOf (N : List Str) (x : Str) : Option Nat := N.findIdx? (· == x)
def visB (sc : Scope) (x : Str) : Bool := match sc.names.lookup x with
  | some .local => true
  | some .cell => true
  | some .free => true
  | _ => false
def locB (sc : Scope) (x : Str) : Bool := match sc.names.lookup x with
  | some .local => true
  | some .cell => true
  | _ => false
def glbB (sc : Scope) (x : Str) : Bool := match sc.names.lookup x with
  | some .globalImplicit => true
  | _ => false
def okName (x : Str) : Bool := !(x == "__debug__") && !(x == "__classdict__") && !(x == "__name__")
/-- the slot of a name that may be read -/
def slotR (c : Ct) (sc : Scope) (x : Str) : Option Nat := if visB sc x && okName x then ixOf c.N x else none
/-- the slot of a name that may be stored -/
def slotW (c : Ct) (sc : Scope) (x : Str) : Option Nat := if locB sc x && okName x then ixOf c.N x else none
/-- a name of the module or a built-in one -/
def isGlb (sc : Scope) (x : Str) : Bool := glbB sc x && okName x
/-- a built-in name that the module does not bind -/
def isBlt (c : Ct) (sc : Scope) (x : Str) : Bool := isGlb sc x && (c.gl.lookup x).isNone && (c.fn.lookup x).isNone && !c.cls.contains x
def opB : Operator → Option BOp
  | .Add => some .add | .Sub => some .sub | .Mult => some .mul | .FloorDiv => some .fdv | .Mod => some .mod | .Pow => some .pow | .LShift => some .shl | .RShift => some .shr | .BitAnd => some .band
  | _ => none
def opC : CmpOp → COp
  | .Eq => .eq | .NotEq => .ne | .Lt => .lt | .LtE => .le | .Gt => .gt | .GtE => .ge | .Is => .is | .IsNot => .isn | .In => .isin | .NotIn => .nin
def tyOf (x : Str) : Option Ty := if x == "int" then some .int else if x == "bool" then some .bool else if x == "str" then some .str else if x == "tuple" then some .tuple else if x == "list" then some .list else if x == "dict" then some .dict else none
def constD : Const → Option D
  | .none => some .none
  | .bool b => some (.bool b)
  | .int i => some (.int i)
  | .str s => if PyData.canLay0 (.str s) && decide (s.length ≤ SZ) then some (.str s) else none
  | _ => none
/-- the own names of a comprehension's block, by place -/
def ownOf (N : List Str) (scope : Scope) : List (Str × Nat) := scope.names.filterMap fun y => match y.2 with
  | .local => (ixOf N y.1).map fun i => (y.1, i)
  | .cell => (ixOf N y.1).map fun i => (y.1, i)
  | _ => none
def blkOkB (N : List Str) (sc scope : Scope) (own : List (Str × Nat)) : Bool :=
  decide (scope.kind = .function) && scope.names.all (fun y => decide (scope.names.lookup y.1 = some y.2)) && own.all (fun p => decide (N[p.2]? = some p.1))
  && scope.names.all (fun y => !decide (y.2 = .free) || decide (sc.names.lookup y.1 = some .cell) || decide (sc.names.lookup y.1 = some .free))
  && scope.names.all (fun y => !(decide (y.2 = .local) || decide (y.2 = .cell)) || (own.map (·.1)).contains y.1 || !N.contains y.1)
mutual
def tgIn (own : List Nat) : Tg → Bool
  | .nm i => own.contains i
  | .tp ts => tgsIn own ts
def tgsIn (own : List Nat) : List Tg → Bool
  | [] => true
  | t :: ts => tgIn own t && tgsIn own ts
end
def mapO {α β : Type} (f : α → Option β) : List α → Option (List β)
  | [] => some []
  | x :: r => do
    let y ← f x
    let ys ← mapO f r
    some (y :: ys)
def cTg : Nat → Ct → Scope → Expr → Option Tg
  | 0, _, _, _ => none
  | _ + 1, c, sc, .Name x _ => (slotW c sc x).map .nm
  | n + 1, c, sc, .Tuple es _ _ => (mapO (cTg n c sc) es).map .tp
  | _ + 1, _, _, _ => none
/-- each parameter behind those by place: its default -/
def selOf (g : Sg) (npos : Nat) : Option (List (Nat ⊕ D)) := mapO (fun (p : Str) => (g.dfl.lookup p).map Sum.inr) (g.ps.drop npos)
def notStar : Expr → Bool
  | .Starred _ _ => false
  | _ => true
def isLc : Expr → Bool
  | .ListComp .. => true
  | .SetComp .. => true
  | .DictComp .. => true
  | _ => false
def isTup : Expr → Bool
  | .Tuple .. => true
  | _ => false
def blTab : List (Str × Nat × Bl) := [("abs", 1, .abs), ("len", 1, .len), ("int", 1, .int), ("sum", 1, .sum), ("all", 1, .all), ("any", 1, .any), ("min", 1, .min1), ("max", 1, .max1), ("min", 2, .min2), ("max", 2, .max2), ("sorted", 1, .sorted), ("tuple", 1, .tuple), ("list", 1, .list)]
def blOf (x : Str) (n : Nat) : Option Bl := (blTab.find? fun q => q.1 == x && q.2.1 == n).map (·.2.2)
/-- a name -/
def cName (c : Ct) (sc : Scope) (x : Str) : Option CE := match slotR c sc x with
  | some i => some (.nm i)
  | none => if isGlb sc x then (c.gl.lookup x).map .cst else none
def cBool : BoolOp → List CE → Option CE
  | _, [] => none
  | _, [x] => some x
  | .And, x :: r => (cBool .And r).map fun y => .and x y
  | .Or, x :: r => (cBool .Or r).map fun y => .or x y
/-- a call of a built-in name -/
def cBlt (rec : Expr → Option CE) (c : Ct) (sc : Scope) (x : Str) (as : List Expr) : Option CE := match x == "isinstance", as with
  | true, [e, .Name t _] => if isBlt c sc t then (tyOf t).bind fun ty => (rec e).map (.isi ty) else none
  | true, _ => none
  | false, [.Call (.Name y _) [e] [] _] => if y == "set" && isBlt c sc y then (if x == "sorted" && notStar e then (rec e).map fun z => .blt .setsorted [z] else none) else (blOf x 1).bind fun b => (mapO rec as).map (.blt b)
  | false, [.Call (.Name y _) [a, b] [] _] => if y == "zip" && isBlt c sc y then (if x == "list" && (notStar a && notStar b) then (rec a).bind fun u => (rec b).map fun v => .blt .listzip [u, v] else none) else (blOf x 1).bind fun b => (mapO rec as).map (.blt b)
  | false, as => (blOf x as.length).bind fun b => (mapO rec as).map (.blt b)
def cCallN (rec : Expr → Option CE) (c : Ct) (sc : Scope) (x : Str) (as : List Expr) : Option CE :=
  if as.all notStar && isGlb sc x then
    match c.fn.lookup x with
    | some g => if g.pats.contains (as.length, []) then (selOf g as.length).bind fun sel => (mapO rec as).map fun xs => .cal g.ix xs [] sel else none
    | none => if isBlt c sc x then cBlt rec c sc x as else none
  else none
/-- a method's call at a name -/
def cCallM (rec : Expr → Option CE) (c : Ct) (sc : Scope) (y m : Str) (as : List Expr) : Option CE := match slotR c sc y with
  | none => none
  | some i => match as with
    | [e] => if m == "append" then (rec e).map (.app i) else if m == "pop" then (rec e).map fun z => .pop i (some z) else none
    | [e, d] => if m == "get" then (rec e).bind fun z => (rec d).map fun w => .mth .get (.nm i) [z, w] else none
    | _ => none
/-- what is walked, into a target -/
def cIt (rec : Expr → Option CE) (c : Ct) (sc : Scope) (tg : Expr) : Expr → Option It
  | .Set _ _ _ => none
  | .Call (.Name x p) as kws q => match isBlt c sc x && kws.isEmpty, as with
    | true, [.Call (.Name y _) [a1, a2] [] _, b] => if x == "zip" then (if (y == "zip" && isBlt c sc y) && (isTup tg && (notStar a1 && (notStar a2 && notStar b))) then (rec a1).bind fun u => (rec a2).bind fun v => (rec b).map fun w => .zpz u v w else none) else none
    | true, [a] => if x == "range" then (if notStar a then (rec a).map fun y => .rng (.cst (.int 0)) y else none)
      else if x == "enumerate" then (if isTup tg && notStar a then (rec a).map .enm else none)
      else (rec (.Call (.Name x p) [a] kws q)).map .sq
    | true, [a, b] => if x == "range" then (if notStar a && notStar b then (rec a).bind fun y => (rec b).map fun z => .rng y z else none)
      else if x == "zip" then (if isTup tg && (notStar a && notStar b) then (rec a).bind fun y => (rec b).map fun z => .zip y z else none)
      else (rec (.Call (.Name x p) [a, b] kws q)).map .sq
    | _, as => (rec (.Call (.Name x p) as kws q)).map .sq
  | e => (rec e).map .sq
def cOpt (rec : Expr → Option CE) : Option Expr → Option (Option CE)
  | some e => (rec e).map some
  | none => some none
/-- a dict's display: its keys texts or ints that are written -/
def cKey : Option Expr → Option D
  | some (.Constant k _ _) => match k with
    | .int i => some (.int i)
    | .str s => (constD (.str s))
    | _ => none
  | _ => none
def ilv : List D → List CE → List CE
  | x :: xs, y :: ys => .cst x :: y :: ilv xs ys
  | _, _ => []
def stepE (c : Ct) (rec : Scope → Expr → Option CE) (sc : Scope) : Expr → Option CE
  | .Constant k _ _ => (constD k).map .cst
  | .Name x _ => cName c sc x
  | .BinOp a op b _ => (opB op).bind fun o => (rec sc a).bind fun x => (rec sc b).map fun y => .bin o x y
  | .UnaryOp .USub a _ => (rec sc a).map .neg
  | .UnaryOp .Not a _ => (rec sc a).map .not
  | .BoolOp op (a :: b :: es) _ => (mapO (rec sc) (a :: b :: es)).bind (cBool op)
  | .Compare a [op] [b] _ => if behindInMarks op b then none else (rec sc a).bind fun x => (rec sc b).map fun y => .cmp (opC op) x y
  | .Compare a [op1, op2] [b, d] _ => if lastMarks [op1, op2] [b, d] then none else (rec sc a).bind fun x => (rec sc b).bind fun y => (rec sc d).map fun z => .chn (opC op1) (opC op2) x y z
  | .IfExp t a b _ => (rec sc t).bind fun x => (rec sc a).bind fun y => (rec sc b).map fun z => .ife x y z
  | .Tuple es _ _ => if es.all notStar && decide (es.length ≤ 1000) then (mapO (rec sc) es).map .tup else none
  | .List es _ => if es.all notStar && decide (es.length ≤ 1000) then (mapO (rec sc) es).map .lst else none
  | .Dict ks vs _ => if decide (ks.length = vs.length) && decide (ks.length ≤ 15) then (mapO cKey ks).bind fun xs => (mapO (rec sc) vs).map fun ys => .dct (ilv xs ys) else none
  | .Subscript a (.Slice lo hi none _) _ => (rec sc a).bind fun x => (cOpt (rec sc) lo).bind fun i => (cOpt (rec sc) hi).map fun j => .slc x i j
  | .Subscript a (.Slice none none (some (.UnaryOp .USub (.Constant (.int 1) _ _) _)) _) _ => (rec sc a).map fun x => .stp x none (-1)
  | .Subscript _ (.Slice _ _ (some _) _) _ => none
  | .Subscript a b _ => (rec sc a).bind fun x => (rec sc b).map fun y => .idx x y
  | .ListComp elt [⟨tg, iter, ifs, 0⟩] scope _ =>
    if (blkOkB c.N sc scope (ownOf c.N scope)) && decide (ifs.length ≤ 1) then
      (cIt (rec sc) c sc tg iter).bind fun i => (cTg 40 c (L2.relS scope sc) tg).bind fun t => (mapO (rec (L2.relS scope sc)) ifs).bind fun ss => (rec (L2.relS scope sc) elt).bind fun x =>
        if tgIn ((ownOf c.N scope).map (·.2)) t then some (.lc ((ownOf c.N scope).map (·.2)) x t i ss) else none
    else none
  | .Call (.Name x _) as [] _ => cCallN (rec sc) c sc x as
  | .Call (.Attribute (.Name y _) m apos) as [] cpos => if as.all notStar && (apos.endLine == cpos.line) then cCallM (rec sc) c sc y m as else none
  | _ => none
def cE : Nat → Ct → Scope → Expr → Option CE
  | 0, _, _, _ => none
  | n + 1, c, sc, e => stepE c (cE n c) sc e
/-- names, unlike -/
def namesOf (c : Ct) (sc : Scope) : List Expr → Option (List Nat)
  | [] => some []
  | .Name x _ :: r => (slotW c sc x).bind fun i => (namesOf c sc r).map (i :: ·)
  | _ :: _ => none
/-- the stores of a, b = x, y: may they be told ahead? -/
def swB (vs : List Expr) : Bool := vs.all (foldedForSure 8) || !vs.all (constantsAlone 8)
def noTup : CE → Bool
  | .tup _ => false
  | _ => true
def stepS (c : Ct) (recE : Scope → Expr → Option CE) (recS : Stmt → Option CS) (sc : Scope) : Stmt → Option CS
  | .Assign [.Name x _] e _ => (slotW c sc x).bind fun i => (recE sc e).map fun y => .asg (.nm i) y
  | .Assign [.Tuple ts _ _] (.Tuple vs _ _) _ => if (decide (vs.length = ts.length) && vs.all notStar) && (swB vs && decide (vs.length ≤ 1000)) then (namesOf c sc ts).bind fun is => (mapO (recE sc) vs).map fun ys => .par is ys else none
  | .Assign [.Tuple ts k p] e _ => if isLc e then none else (mapO (cTg 40 c sc) ts).bind fun t => (recE sc e).map fun y => .asg (.tp t) y
  | .Assign [.Subscript (.Name x _) (.Tuple es _ _) _] e _ => if isLc e || !(es.all notStar && decide (es.length ≤ 1000)) then none else (slotR c sc x).bind fun k => (mapO (recE sc) es).bind fun j => (recE sc e).map fun y => .sti k (.tup j) y
  | .Assign [.Subscript (.Name x _) (.Slice ..) _] e _ => none
  | .Assign [.Subscript (.Name x _) i _] e _ => if isLc e then none else (slotR c sc x).bind fun k => (recE sc i).bind fun j => if noTup j then (recE sc e).map fun y => .sti k j y else none
  | .Expr (.Constant (.str _) _ _) _ => some .pas
  | .Expr e _ => if isLc e then none else (recE sc e).map .exp
  | .Return none _ => some (.ret none)
  | .Return (some e) _ => (recE sc e).map fun y => .ret (some y)
  | .If t a b _ => (recE sc t).bind fun x => (mapO recS a).bind fun y => (mapO recS b).map fun z => .iff x y z
  | .For tg iter body [] _ => (cTg 40 c sc tg).bind fun t => (cIt (recE sc) c sc tg iter).bind fun i => (mapO recS body).map fun b => .for t i b
  | .While t body [] _ => (recE sc t).bind fun x => (mapO recS body).map fun b => .whl x b
  | .Break _ => some .brk
  | .Continue _ => some .cnt
  | .Pass _ => some .pas
  | .Raise .. => some .nev
  | _ => none
def cS : Nat → Ct → Scope → Stmt → Option CS
  | 0, _, _, _ => none
  | n + 1, c, sc, s => stepS c (cE 40 c) (cS n c sc) sc s
def cB (c : Ct) (sc : Scope) (b : List Stmt) : Option (List CS) := mapO (cS 40 c sc) b
end Mp
end

/-! ## MpRel -/
section
set_option linter.all false
set_option maxRecDepth 100000
/-! Mp: what stands in the heap for data, for a slot's own list or dict. -/
namespace Mp
open PySem PySem.Spec PyProof.Rows L2

def keyData : Key → D
  | .inl i => .int i
  | .inr s => .str s
/-- a list that nobody changes: frozen by us, locked, or of the text's own -/
def FzL (K : PySem.W.Frag) (F : Addr → Prop) (H : Hp) (a : Addr) (xs : List V) : Prop :=
  (F a ∧ H a = some (.lst xs)) ∨ (∃ o, H a = some (.frz o (.lst xs))) ∨
    ∃ (o : Obj) (its : Array Value) (n : Nat), K.lookup a = some o ∧ o.cls = .type "list" ∧ o.dict = none ∧ o.data = .seq its n ∧ its.size ≤ sizeLine ∧ Vals xs its.toList
mutual
inductive Rv (K : PySem.W.Frag) (F : Addr → Prop) (H : Hp) : V → D → Prop
  | non : Rv K F H .non .none
  | bl (b : Bool) : Rv K F H (.bl b) (.bool b)
  | int (i : Int) : Rv K F H (.int i) (.int i)
  | str (s : Str) : PyData.strOk s = true → s.length ≤ SZ → Rv K F H (.str s) (.str s)
  | lst {a : Addr} {xs : List V} {ds : List D} : FzL K F H a xs → xs.length ≤ SZ → RvA K F H xs ds → Rv K F H (.ref a) (.list ds)
  | tup {a : Addr} {xs : List V} {ds : List D} : SqT K H a xs → xs.length ≤ SZ → RvA K F H xs ds → Rv K F H (.ref a) (.tuple ds)
  | dK {a : Addr} {kvs : List (Key × V)} {ds : List (D × D)} : F a → H a = some (.dK kvs) → kvs.length ≤ SZ → RvK K F H kvs ds → Rv K F H (.ref a) (.dict ds)
  | dT {a : Addr} {kvs : List (List Key × V)} {ds : List (D × D)} : F a → H a = some (.dT kvs) → (kvs ≠ [] ∧ kvs.length ≤ SZ) → RvT K F H kvs ds → Rv K F H (.ref a) (.dict ds)
inductive RvA (K : PySem.W.Frag) (F : Addr → Prop) (H : Hp) : List V → List D → Prop
  | nil : RvA K F H [] []
  | cons {v : V} {vs : List V} {d : D} {ds : List D} : Rv K F H v d → RvA K F H vs ds → RvA K F H (v :: vs) (d :: ds)
inductive RvK (K : PySem.W.Frag) (F : Addr → Prop) (H : Hp) : List (Key × V) → List (D × D) → Prop
  | nil : RvK K F H [] []
  | cons {k : Key} {v : V} {vs : List (Key × V)} {d : D} {ds : List (D × D)} : Rv K F H v d → RvK K F H vs ds → RvK K F H ((k, v) :: vs) ((keyData k, d) :: ds)
inductive RvT (K : PySem.W.Frag) (F : Addr → Prop) (H : Hp) : List (List Key × V) → List (D × D) → Prop
  | nil : RvT K F H [] []
  | cons {k : List Key} {v : V} {vs : List (List Key × V)} {d : D} {ds : List (D × D)} : Rv K F H v d → RvT K F H vs ds → RvT K F H ((k, v) :: vs) ((.tuple (k.map keyData), d) :: ds)
end

/-- what may be changed -/
def MutO : HO → Prop
  | .lst _ => True
  | .dK _ => True
  | .dT _ => True
  | _ => False
/-- from one heap to a later one: M may be changed, else all that stands is kept; what is frozen is new, or was M's -/
structure Ex (M : Addr → Prop) (F : Addr → Prop) (H : Hp) (F' : Addr → Prop) (H' : Hp) : Prop where
  keep : ∀ a o, H a = some o → ¬ M a → H' a = some o
  fro : ∀ a, F a → F' a
  new : ∀ a, F' a → F a ∨ M a ∨ H a = none
  dom : ∀ a, H' a = none → H a = none
/-- M is no frozen thing, and may be changed -/
def Mok (M : Addr → Prop) (F : Addr → Prop) (H : Hp) : Prop := ∀ a, M a → ¬ F a ∧ ∃ o, H a = some o ∧ MutO o
def M0 : Addr → Prop := fun _ => False
theorem Mok.none {F : Addr → Prop} {H : Hp} : Mok M0 F H := fun _ h => h.elim
section
variable {K : PySem.W.Frag} {M M1 : Addr → Prop} {F F' F1 F2 : Addr → Prop} {H H' H1 H2 : Hp}
theorem Ex.refl : Ex M F H F H := ⟨fun _ _ e _ => e, fun _ h => h, fun _ h => .inl h, fun _ h => h⟩
theorem Ex.mono (x : Ex M F H F' H') (h : ∀ a, M a → M1 a) : Ex M1 F H F' H' :=
  ⟨fun a o e n => x.keep a o e fun z => n (h a z), x.fro, fun a z => (x.new a z).imp id (Or.imp (h a) id), x.dom⟩
theorem Ex.trans (x : Ex M F H F1 H1) (y : Ex M1 F1 H1 F2 H2) (h : ∀ a, M1 a → M a ∨ H a = none) : Ex M F H F2 H2 where
  keep := fun a o e n => y.keep a o (x.keep a o e n) fun z => (h a z).elim n fun q => by rw [e] at q; cases q
  fro := fun a z => y.fro a (x.fro a z)
  new := fun a z => by
    rcases y.new a z with q | q | q
    · exact x.new a q
    · exact .inr (h a q)
    · exact .inr (.inr (x.dom a q))
  dom := fun a z => x.dom a (y.dom a z)
theorem FzL.mono (hM : Mok M F H) (x : Ex M F H F' H') {a : Addr} {xs : List V} (h : FzL K F H a xs) : FzL K F' H' a xs := by
  rcases h with ⟨f, e⟩ | ⟨o, e⟩ | h
  · exact .inl ⟨x.fro a f, x.keep a _ e fun z => (hM a z).1 f⟩
  · refine .inr (.inl ⟨o, x.keep a _ e fun z => ?_⟩)
    obtain ⟨_, o', e', m⟩ := hM a z
    rw [e] at e'
    cases e'
    exact m
  · exact .inr (.inr h)
theorem FzL.sq {a : Addr} {xs : List V} (h : FzL K F H a xs) : SqL K H a xs := by
  rcases h with ⟨_, e⟩ | ⟨o, e⟩ | h
  · exact .inl (.inl e)
  · exact .inl (.inr ⟨o, e⟩)
  · exact .inr h
theorem SqT.mono (hM : Mok M F H) (x : Ex M F H F' H') {a : Addr} {xs : List V} (h : SqT K H a xs) : SqT K H' a xs := by
  rcases h with h | h
  · refine .inl ?_
    rcases h with e | ⟨o, e⟩
    · refine .inl (x.keep a _ e fun z => ?_)
      obtain ⟨_, o', e', m⟩ := hM a z
      rw [e] at e'
      cases e'
      exact m
    · refine .inr ⟨o, x.keep a _ e fun z => ?_⟩
      obtain ⟨_, o', e', m⟩ := hM a z
      rw [e] at e'
      cases e'
      exact m
  · exact .inr h
mutual
theorem Rv.mono (hM : Mok M F H) (x : Ex M F H F' H') : ∀ {d : D} {v : V}, Rv K F H v d → Rv K F' H' v d
  | .none, _, h => by
    cases h
    exact .non
  | .bool _, _, h => by
    cases h
    exact .bl _
  | .int _, _, h => by
    cases h
    exact .int _
  | .str _, _, h => by
    cases h with
    | str _ h1 h2 => exact .str _ h1 h2
  | .list ds, _, h => by
    cases h with
    | lst h1 h2 h3 => exact .lst (h1.mono hM x) h2 (RvA.mono hM x h3)
  | .tuple ds, _, h => by
    cases h with
    | tup h1 h2 h3 => exact .tup (SqT.mono hM x h1) h2 (RvA.mono hM x h3)
  | .dict ds, _, h => by
    cases h with
    | dK h1 h2 h3 h4 => exact .dK (x.fro _ h1) (x.keep _ _ h2 fun z => (hM _ z).1 h1) h3 (RvK.mono hM x h4)
    | dT h1 h2 h3 h4 => exact .dT (x.fro _ h1) (x.keep _ _ h2 fun z => (hM _ z).1 h1) h3 (RvT.mono hM x h4)
theorem RvA.mono (hM : Mok M F H) (x : Ex M F H F' H') : ∀ {ds : List D} {vs : List V}, RvA K F H vs ds → RvA K F' H' vs ds
  | [], _, h => by
    cases h
    exact .nil
  | d :: ds, _, h => by
    cases h with
    | cons h1 h2 => exact .cons (Rv.mono hM x h1) (RvA.mono hM x h2)
theorem RvK.mono (hM : Mok M F H) (x : Ex M F H F' H') : ∀ {ds : List (D × D)} {vs : List (Key × V)}, RvK K F H vs ds → RvK K F' H' vs ds
  | [], _, h => by
    cases h
    exact .nil
  | (k, d) :: ds, _, h => by
    cases h with
    | cons h1 h2 => exact .cons (Rv.mono hM x h1) (RvK.mono hM x h2)
theorem RvT.mono (hM : Mok M F H) (x : Ex M F H F' H') : ∀ {ds : List (D × D)} {vs : List (List Key × V)}, RvT K F H vs ds → RvT K F' H' vs ds
  | [], _, h => by
    cases h
    exact .nil
  | (k, d) :: ds, _, h => by
    cases h with
    | cons h1 h2 => exact .cons (Rv.mono hM x h1) (RvT.mono hM x h2)
end
theorem RvA.length : ∀ {ds : List D} {vs : List V}, RvA K F H vs ds → vs.length = ds.length
  | [], _, h => by
    cases h
    rfl
  | d :: ds, _, h => by
    cases h with
    | cons h1 h2 => exact congrArg Nat.succ (RvA.length h2)
theorem RvA.get : ∀ {ds : List D} {vs : List V} {i : Nat} {d : D}, RvA K F H vs ds → ds[i]? = some d → ∃ v, vs[i]? = some v ∧ Rv K F H v d
  | [], _, _, _, _, e => by simp at e
  | _ :: _, _, 0, _, h, e => by
    cases h with
    | cons h1 h2 =>
      simp at e
      subst e
      exact ⟨_, rfl, h1⟩
  | _ :: ds, _, i + 1, _, h, e => by
    cases h with
    | cons h1 h2 =>
      obtain ⟨v, e1, r⟩ := RvA.get (i := i) h2 (by simpa using e)
      exact ⟨v, by simpa using e1, r⟩
theorem RvA.append : ∀ {ds es : List D} {vs ws : List V}, RvA K F H vs ds → RvA K F H ws es → RvA K F H (vs ++ ws) (ds ++ es)
  | [], _, _, _, h, k => by
    cases h
    exact k
  | _ :: _, _, _, _, h, k => by
    cases h with
    | cons h1 h2 => exact .cons h1 (RvA.append h2 k)
theorem RvA.take : ∀ {ds : List D} {vs : List V} (n : Nat), RvA K F H vs ds → RvA K F H (vs.take n) (ds.take n)
  | _, _, 0, _ => .nil
  | [], _, n + 1, h => by
    cases h
    exact .nil
  | _ :: _, _, n + 1, h => by
    cases h with
    | cons h1 h2 => exact .cons h1 (RvA.take n h2)
theorem RvA.drop : ∀ {ds : List D} {vs : List V} (n : Nat), RvA K F H vs ds → RvA K F H (vs.drop n) (ds.drop n)
  | _, _, 0, h => h
  | [], _, n + 1, h => by
    cases h
    exact .nil
  | _ :: _, _, n + 1, h => by
    cases h with
    | cons h1 h2 => exact RvA.drop n h2
theorem RvA.set {v : V} {d : D} (hv : Rv K F H v d) : ∀ {ds : List D} {vs : List V} (n : Nat), RvA K F H vs ds → RvA K F H (vs.set n v) (ds.set n d)
  | [], _, n, h => by
    cases h
    exact .nil
  | _ :: _, _, 0, h => by
    cases h with
    | cons h1 h2 => exact .cons hv h2
  | _ :: _, _, n + 1, h => by
    cases h with
    | cons h1 h2 => exact .cons h1 (RvA.set hv n h2)
theorem RvA.eraseIdx : ∀ {ds : List D} {vs : List V} (n : Nat), RvA K F H vs ds → RvA K F H (vs.eraseIdx n) (ds.eraseIdx n)
  | [], _, n, h => by
    cases h
    exact .nil
  | _ :: _, _, 0, h => by
    cases h with
    | cons h1 h2 => exact h2
  | _ :: _, _, n + 1, h => by
    cases h with
    | cons h1 h2 => exact .cons h1 (RvA.eraseIdx n h2)
theorem RvA.reverse : ∀ {ds : List D} {vs : List V}, RvA K F H vs ds → RvA K F H vs.reverse ds.reverse
  | [], _, h => by
    cases h
    exact .nil
  | _ :: _, _, h => by
    cases h with
    | cons h1 h2 =>
      rw [List.reverse_cons, List.reverse_cons]
      exact (RvA.reverse h2).append (.cons h1 .nil)
theorem RvK.length : ∀ {ds : List (D × D)} {vs : List (Key × V)}, RvK K F H vs ds → vs.length = ds.length
  | [], _, h => by
    cases h
    rfl
  | d :: ds, _, h => by
    cases h with
    | cons h1 h2 => exact congrArg Nat.succ (RvK.length h2)
theorem RvT.length : ∀ {ds : List (D × D)} {vs : List (List Key × V)}, RvT K F H vs ds → vs.length = ds.length
  | [], _, h => by
    cases h
    rfl
  | d :: ds, _, h => by
    cases h with
    | cons h1 h2 => exact congrArg Nat.succ (RvT.length h2)
/-- data without dicts: HandS's own word -/
theorem strOk_of {s : Str} (h : PyData.strOk s = true) : PyData.canLay0 (.str s) = true := h
mutual
theorem Rv.dp : ∀ {d : D} {v : V}, noDict d = true → Rv K F H v d → Dp K H v d
  | .none, _, _, h => by
    cases h
    exact .non
  | .bool _, _, _, h => by
    cases h
    exact .bl _
  | .int _, _, _, h => by
    cases h
    exact .int _
  | .str _, _, _, h => by
    cases h with
    | str _ h1 h2 => exact .str _
  | .list ds, _, n, h => by
    cases h with
    | lst h1 h2 h3 => exact .lst h1.sq (RvA.dp n h3)
  | .tuple ds, _, n, h => by
    cases h with
    | tup h1 h2 h3 => exact .tup h1 (RvA.dp n h3)
  | .dict ds, _, n, h => by cases n
theorem RvA.dp : ∀ {ds : List D} {vs : List V}, noDictAll ds = true → RvA K F H vs ds → DpAll K H vs ds
  | [], _, _, h => by
    cases h
    exact .nil
  | d :: ds, _, n, h => by
    cases h with
    | cons h1 h2 =>
      obtain ⟨n1, n2⟩ := Bool.and_eq_true_iff.mp (show (noDict d && noDictAll ds) = true from n)
      exact .cons (Rv.dp n1 h1) (RvA.dp n2 h2)
end
mutual
theorem Rv.lay : ∀ {d : D} {v : V}, noDict d = true → Rv K F H v d → PyData.canLay0 d = true
  | .none, _, _, _ => rfl
  | .bool _, _, _, _ => rfl
  | .int _, _, _, _ => rfl
  | .str _, _, _, h => by
    cases h with
    | str _ h1 h2 => exact h1
  | .list ds, _, n, h => by
    cases h with
    | lst h1 h2 h3 => exact RvA.lay n h3
  | .tuple ds, _, n, h => by
    cases h with
    | tup h1 h2 h3 => exact RvA.lay n h3
  | .dict ds, _, n, h => by cases n
theorem RvA.lay : ∀ {ds : List D} {vs : List V}, noDictAll ds = true → RvA K F H vs ds → PyData.canLayAll0 ds = true
  | [], _, _, _ => rfl
  | d :: ds, _, n, h => by
    cases h with
    | cons h1 h2 =>
      obtain ⟨n1, n2⟩ := Bool.and_eq_true_iff.mp (show (noDict d && noDictAll ds) = true from n)
      exact Bool.and_eq_true_iff.mpr ⟨Rv.lay n1 h1, RvA.lay n2 h2⟩
end
theorem Rv.shaped {d : D} {v : V} (n : noDict d = true) (o : okE d = true) (h : Rv K F H v d) : SeqAt.shaped d = true := Bool.and_eq_true_iff.mpr ⟨Rv.lay n h, o⟩

/-! ### what a slot holds -/
def RO (K : PySem.W.Frag) (F : Addr → Prop) (H : Hp) (o : O) (v : V) : Prop := match o with
  | .v d => Rv K F H v d
  | .lst ds => ∃ a xs, v = .ref a ∧ ¬ F a ∧ H a = some (.lst xs) ∧ xs.length ≤ SZ ∧ RvA K F H xs ds
  | .dct ds => ∃ a, v = .ref a ∧ ¬ F a ∧ ((∃ kvs, H a = some (.dK kvs) ∧ kvs.length ≤ SZ ∧ RvK K F H kvs ds) ∨ (∃ kvs, H a = some (.dT kvs) ∧ (kvs ≠ [] ∧ kvs.length ≤ SZ) ∧ RvT K F H kvs ds))
theorem RO.mut {o : O} {v : V} (h : RO K F H o v) (w : isOwn o = true) : ∃ a, v = .ref a ∧ ¬ F a ∧ ∃ u, H a = some u ∧ MutO u := by
  cases o with
  | v d => cases w
  | lst ds =>
    obtain ⟨a, xs, e, n, q, _⟩ := h
    exact ⟨a, e, n, _, q, trivial⟩
  | dct ds =>
    obtain ⟨a, e, n, q⟩ := h
    rcases q with ⟨kvs, q, _⟩ | ⟨kvs, q, _⟩
    · exact ⟨a, e, n, _, q, trivial⟩
    · exact ⟨a, e, n, _, q, trivial⟩
theorem RO.mono (hM : Mok M F H) (x : Ex M F H F' H') {o : O} {v : V} (h : RO K F H o v) (w : isOwn o = true → ∀ a, v = .ref a → ¬ M a) : RO K F' H' o v := by
  have nf : isOwn o = true → ∀ a, v = .ref a → ¬ F' a := fun w1 a e f => by
    obtain ⟨b, e2, n, u, q, _⟩ := h.mut w1
    rw [e] at e2
    cases e2
    rcases x.new a f with z | z | z
    · exact n z
    · exact w w1 a e z
    · rw [q] at z
      cases z
  cases o with
  | v d => exact Rv.mono hM x h
  | lst ds =>
    obtain ⟨a, xs, e, n, q, l, r⟩ := h
    exact ⟨a, xs, e, nf rfl a e, x.keep a _ q (w rfl a e), l, RvA.mono hM x r⟩
  | dct ds =>
    obtain ⟨a, e, n, q⟩ := h
    refine ⟨a, e, nf rfl a e, ?_⟩
    rcases q with ⟨kvs, q, l, r⟩ | ⟨kvs, q, l, r⟩
    · exact .inl ⟨kvs, x.keep a _ q (w rfl a e), l, RvK.mono hM x r⟩
    · exact .inr ⟨kvs, x.keep a _ q (w rfl a e), l, RvT.mono hM x r⟩
end
/-! ### slots -/
/-- the addresses of the slots' own things -/
def Ow (r : En) (σ : L2.St) (a : Addr) : Prop := ∃ i o, r.at i = some o ∧ isOwn o = true ∧ σ[i]? = some (some (.ref a))
structure RE (K : PySem.W.Frag) (F : Addr → Prop) (H : Hp) (r : En) (σ : L2.St) : Prop where
  len : r.length = σ.length
  val : ∀ i o, r.at i = some o → ∃ v, σ[i]? = some (some v) ∧ RO K F H o v
  sep : ∀ i j oi oj a, r.at i = some oi → r.at j = some oj → isOwn oi = true → isOwn oj = true → σ[i]? = some (some (.ref a)) → σ[j]? = some (some (.ref a)) → i = j
  dom : ∀ a, F a → H a ≠ none
section
variable {K : PySem.W.Frag} {M M1 : Addr → Prop} {F F' F1 F2 : Addr → Prop} {H H' H1 H2 : Hp} {r r' r1 r2 : En} {σ σ' σ1 σ2 : L2.St}
theorem RE.mok (e : RE K F H r σ) : Mok (Ow r σ) F H := fun a ⟨i, o, h1, h2, h3⟩ => by
  obtain ⟨v, e1, ro⟩ := e.val i o h1
  rw [h3] at e1
  cases e1
  obtain ⟨b, eb, n, u, q, m⟩ := ro.mut h2
  cases eb
  exact ⟨n, u, q, m⟩
end
end Mp
end

/-! ## MpOps -/
section
set_option linter.all false
set_option maxRecDepth 100000
/-! Mp: operators at values that stand for data. -/
namespace Mp
open PySem PySem.Spec PyProof.Rows L2

theorem SZ_eq : SZ = sizeLine := by rw [sizeLine_eq]; rfl
/-- all that is tracked stays -/
def Sub (H H' : Hp) : Prop := ∀ a o, H a = some o → H' a = some o
theorem Sub.refl {H : Hp} : Sub H H := fun _ _ h => h
theorem Sub.trans {H H1 H2 : Hp} (x : Sub H H1) (y : Sub H1 H2) : Sub H H2 := fun a o h => y a o (x a o h)
theorem Sub.new {H : Hp} {p : Addr} {u : HO} (hp : H p = none) : Sub H (upd H p u) := fun a o e => by rw [upd_ne (ne_of_none e hp)]; exact e
theorem Sub.ex {F : Addr → Prop} {H H' : Hp} (x : Sub H H') : Ex M0 F H F H' := ⟨fun a o e _ => x a o e, fun _ h => h, fun _ h => .inl h, fun a h => by
  cases q : H a with
  | none => rfl
  | some o => rw [x a o q] at h; cases h⟩
def Dom (F : Addr → Prop) (H : Hp) : Prop := ∀ a, F a → H a ≠ none
/-- what is wanted of the answer q -/
def Out (K : PySem.W.Frag) (F : Addr → Prop) (H : Hp) (q : O) (Q : VK) : Prop :=
  ∀ v H', Sub H H' → RO K F H' q v → (isOwn q = true → ∀ a, v = .ref a → H a = none) → Q v H'
section
variable {K : PySem.W.Frag} {F : Addr → Prop} {H : Hp} {Q : VK} {q : O} {v : V}
theorem Rv.sub {H' : Hp} (x : Sub H H') {d : D} (h : Rv K F H v d) : Rv K F H' v d := h.mono Mok.none x.ex
theorem RvA.sub {H' : Hp} (x : Sub H H') {ds : List D} {vs : List V} (h : RvA K F H vs ds) : RvA K F H' vs ds := RvA.mono Mok.none x.ex h
theorem Out.val {d : D} (h : Out K F H (.v d) Q) (r : Rv K F H v d) : Q v H := h v H .refl r fun z => nomatch z
theorem Out.lnew {ds : List D} {xs : List V} (h : Out K F H (.lst ds) Q) (dm : Dom F H) (r : RvA K F H xs ds) (hz : xs.length ≤ SZ) {p : Addr} (hp : H p = none) : Q (.ref p) (upd H p (.lst xs)) :=
  h _ _ (.new hp) ⟨p, xs, rfl, fun f => dm p f hp, upd_same, hz, r.sub (.new hp)⟩ fun _ a e => by
    cases e
    exact hp
theorem Out.tnew {ds : List D} {xs : List V} (h : Out K F H (.v (.tuple ds)) Q) (r : RvA K F H xs ds) (hz : xs.length ≤ SZ) {p : Addr} (hp : H p = none) : Q (.ref p) (upd H p (.tup xs)) :=
  h _ _ (.new hp) (.tup (.of upd_same) hz (r.sub (.new hp))) fun z => nomatch z
/-- a list: its values -/
theorem RO.lst {o : O} {ds : List D} (h : RO K F H o v) (e : lstO o = some ds) : ∃ a xs, v = .ref a ∧ SqL K H a xs ∧ xs.length ≤ SZ ∧ RvA K F H xs ds := by
  cases o with
  | v d =>
    cases d with
    | list ys =>
      cases e
      cases (show Rv K F H v (.list ds) from h) with
      | lst h1 h2 h3 => exact ⟨_, _, rfl, h1.sq, h2, h3⟩
    | _ => cases e
  | lst ys =>
    cases e
    obtain ⟨a, xs, rfl, _, q, l, r⟩ := h
    exact ⟨a, xs, rfl, .of q, l, r⟩
  | dct ys => cases e
theorem Rv.tupE {ds : List D} (h : Rv K F H v (.tuple ds)) : ∃ a xs, v = .ref a ∧ SqT K H a xs ∧ xs.length ≤ SZ ∧ RvA K F H xs ds := by
  cases h with
  | tup h1 h2 h3 => exact ⟨_, _, rfl, h1, h2, h3⟩
/-- a list or tuple -/
theorem RO.seq {o : O} {ds : List D} (h : RO K F H o v) (e : seqD o = some ds) : ∃ a xs, v = .ref a ∧ (SqL K H a xs ∨ SqT K H a xs) ∧ xs.length ≤ SZ ∧ RvA K F H xs ds := by
  cases o with
  | v d =>
    cases d with
    | list ys =>
      obtain ⟨a, xs, e1, q, l, r⟩ := h.lst e
      exact ⟨a, xs, e1, .inl q, l, r⟩
    | tuple ys =>
      cases e
      obtain ⟨a, xs, e1, q, l, r⟩ := Rv.tupE h
      exact ⟨a, xs, e1, .inr q, l, r⟩
    | _ => cases e
  | lst ys =>
    obtain ⟨a, xs, e1, q, l, r⟩ := h.lst e
    exact ⟨a, xs, e1, .inl q, l, r⟩
  | dct ys => cases e
/-- a dict -/
theorem RO.dct {o : O} {ds : List (D × D)} (h : RO K F H o v) (e : dctO o = some ds) : ∃ a, v = .ref a ∧ ((∃ kvs, H a = some (.dK kvs) ∧ kvs.length ≤ SZ ∧ RvK K F H kvs ds) ∨ (∃ kvs, H a = some (.dT kvs) ∧ (kvs ≠ [] ∧ kvs.length ≤ SZ) ∧ RvT K F H kvs ds)) := by
  cases o with
  | v d =>
    cases d with
    | dict ys =>
      cases e
      cases (show Rv K F H v (.dict ds) from h) with
      | dK h1 h2 h3 h4 => exact ⟨_, rfl, .inl ⟨_, h2, h3, h4⟩⟩
      | dT h1 h2 h3 h4 => exact ⟨_, rfl, .inr ⟨_, h2, h3, h4⟩⟩
    | _ => cases e
  | lst ys => cases e
  | dct ys =>
    cases e
    obtain ⟨a, e1, _, q⟩ := h
    exact ⟨a, e1, q⟩
theorem Rv.intE {i : Int} (h : Rv K F H v (.int i)) : v = .int i := by
  cases h
  rfl
theorem Rv.blE {b : Bool} (h : Rv K F H v (.bool b)) : v = .bl b := by
  cases h
  rfl
theorem Rv.nonE (h : Rv K F H v .none) : v = .non := by
  cases h
  rfl
theorem Rv.strE {x : Str} (h : Rv K F H v (.str x)) : v = .str x ∧ PyData.strOk x = true ∧ x.length ≤ SZ := by
  cases h with
  | str _ h1 h2 => exact ⟨rfl, h1, h2⟩
end
theorem strOk_append {x y : Str} (hx : PyData.strOk x = true) (hy : PyData.strOk y = true) : PyData.strOk (x ++ y) = true := by
  show ((x.cps ++ y.cps).all (· < 0x110000)) = true
  rw [Array.all_append]
  exact Bool.and_eq_true_iff.mpr ⟨hx, hy⟩
theorem len_append {x y : Str} : (x ++ y).length = x.length + y.length := by
  show (x.cps ++ y.cps).size = _
  exact Array.size_append
/-! ### two operands -/
abbrev RR2 (K : PySem.W.Frag) (f : O → O → Option O) : R2 := fun x y H Q => ∃ F o p q, Dom F H ∧ RO K F H o x ∧ RO K F H p y ∧ f o p = some q ∧ Out K F H q Q
/-- an operation's rule -/
def Op2 (X : Cx) (g : Value → Value → Sem Value) (f : O → O → Option O) : Prop := OpR X g (RR2 X.K f)
theorem Op2.of {X : Cx} {g : Value → Value → Sem Value} {f : O → O → Option O} (h : ∀ x y H Q F o p q, Dom F H → RO X.K F H o x → RO X.K F H p y → f o p = some q → Out X.K F H q Q → ∃ r : R2, OpR X g r ∧ r x y H Q) : Op2 X g f := by
  intro pins s σ H x y v u Q I rx ry ⟨F, o, p, q, d, ro, rp, e, k⟩
  obtain ⟨r, h1, h2⟩ := h x y H Q F o p q d ro rp e k
  exact h1 pins s σ H x y v u Q I rx ry h2
theorem op_ints {X : Cx} {g : Value → Value → Sem Value} {c : Int → Int → Bool} {C : Int → Int → Prop} {f : Int → Int → Int} (hr : OpR X g (rI C fun i j => .int (f i j))) (hc : ∀ i j, c i j = true → C i j) : Op2 X g (intsO c f) := by
  refine .of fun x y H Q F o p q d ro rp e k => ⟨_, hr, ?_⟩
  unfold intsO at e
  split at e
  · split at e
    · rename_i i j hcc
      cases e
      cases Rv.intE ro
      cases Rv.intE rp
      exact ⟨i, j, rfl, rfl, hc i j hcc, k.val (.int _)⟩
    · cases e
  · cases e
theorem weak {X : Cx} {g : Value → Value → Sem Value} {r r' : R2} (h : OpR X g r) (w : ∀ x y H Q, r' x y H Q → r x y H Q) : OpR X g r' := fun pins s σ H x y v u Q I rx ry k => h pins s σ H x y v u Q I rx ry (w _ _ _ _ k)
theorem op_catL {X : Cx} : OpR X (binaryOp .Add) (fun x y H Q => ∃ l b xs zs, x = .ref l ∧ y = .ref b ∧ SqL X.K H l xs ∧ SqL X.K H b zs ∧ xs.length + zs.length ≤ sizeLine ∧ ∀ p, H p = none → Q (.ref p) (upd H p (.lst (xs ++ zs)))) := by
  intro pins s σ H x y v u Q I rx ry h
  obtain ⟨l, b, xs, zs, rfl, rfl, hH, hB, hz, q⟩ := h
  cases rx
  cases ry
  obtain ⟨its, r, ⟨⟨cls, dd, data, sl⟩, n, ho, hc, _, hd⟩, _⟩ := I.list hH
  obtain ⟨its2, r2, ⟨⟨cls2, dd2, data2, sl2⟩, n2, ho2, hc2, _, hd2⟩, _⟩ := I.list hB
  simp only at hc hd hc2 hd2
  subst hc hd hc2 hd2
  have l1 := r.length
  have l2 := r2.length
  have e : its.toArray ++ its2.toArray = (its ++ its2).toArray := by simp
  refine concat_meets ⟨_, ho, rfl⟩ ⟨_, ho2, rfl⟩ noFill_list_add seq_list_add PySem.F.slot_list_add PySem.F.entry_list_add (PySem.F.args_list_add_2 _ _) (list_addW l b its.toArray its2.toArray n n2 dd dd2 sl sl2 (by rw [List.size_toArray, List.size_toArray, ← l1, ← l2]; exact hz)) ⟨ho, ho2, ?_⟩
  rw [e]
  exact ⟨.ref _, _, I.lnew (t' := s.toks) (r.append r2) (by rw [List.length_append]; omega), rfl, q _ I.fresh⟩
theorem op_add' {X : Cx} : Op2 X (binaryOp .Add) addO := by
  refine .of fun x y H Q F o p q d ro rp e k => ?_
  unfold addO at e
  split at e
  · rename_i i j
    cases e
    cases Rv.intE ro
    cases Rv.intE rp
    exact ⟨_, op_add, i, j, rfl, rfl, k.val (.int _)⟩
  · rename_i i j
    split at e
    · rename_i hz
      cases e
      obtain ⟨rfl, h1, h2⟩ := Rv.strE ro
      obtain ⟨rfl, h3, h4⟩ := Rv.strE rp
      refine ⟨_, op_add_str, i, j, rfl, rfl, by rw [← SZ_eq]; exact hz, k.val (.str _ (strOk_append h1 h3) (by rw [len_append]; exact hz))⟩
    · cases e
  · rename_i xs ys
    split at e
    · rename_i hz
      cases e
      obtain ⟨a, us, rfl, h1, h2, h3⟩ := Rv.tupE ro
      obtain ⟨b, ws, rfl, h4, h5, h6⟩ := Rv.tupE rp
      have l1 := RvA.length h3
      have l2 := RvA.length h6
      refine ⟨_, op_catA, a, b, us, ws, rfl, rfl, h1, h4, by rw [← SZ_eq]; omega, fun e => ?_, fun e1 e2 => ?_, fun _ _ p hp => ?_⟩
      · subst e
        cases h3
        exact k.val rp
      · subst e2
        cases h6
        exact k.val (by rw [List.append_nil]; exact ro)
      · exact k.tnew (h3.append h6) (by rw [List.length_append]; omega) hp
    · cases e
  · split at e
    · rename_i xs ys e1 e2
      split at e
      · rename_i hz
        cases e
        obtain ⟨a, us, rfl, h1, h2, h3⟩ := ro.lst e1
        obtain ⟨b, ws, rfl, h4, h5, h6⟩ := rp.lst e2
        have l1 := RvA.length h3
        have l2 := RvA.length h6
        exact ⟨_, op_catL, a, b, us, ws, rfl, rfl, h1, h4, by rw [← SZ_eq]; omega, fun p hp => k.lnew d (h3.append h6) (by rw [List.length_append]; omega) hp⟩
      · cases e
    · cases e
theorem RvA.rep {K : PySem.W.Frag} {F : Addr → Prop} {H : Hp} {xs : List V} {ds : List D} (h : RvA K F H xs ds) : ∀ n : Nat, RvA K F H (List.replicate n xs).flatten (List.replicate n ds).flatten
  | 0 => .nil
  | n + 1 => by
    rw [List.replicate_succ, List.replicate_succ, List.flatten_cons, List.flatten_cons]
    exact h.append (h.rep n)
theorem rep_len {α : Type} (xs : List α) (n : Nat) : (List.replicate n xs).flatten.length = n * xs.length := by
  induction n with
  | zero => simp
  | succ n ih => rw [List.replicate_succ, List.flatten_cons, List.length_append, ih, Nat.succ_mul, Nat.add_comm]
theorem rep_SZ {n m : Nat} (h : n ≤ 1000) (k : m ≤ 1000) : n * m ≤ SZ := Nat.le_trans (Nat.mul_le_mul h k) (by decide)
theorem op_mul' {X : Cx} : Op2 X (binaryOp .Mult) mulO := by
  refine .of fun x y H Q F o p q d ro rp e k => ?_
  unfold mulO at e
  split at e
  · rename_i i j
    split at e
    · rename_i hc
      cases e
      cases Rv.intE ro
      cases Rv.intE rp
      exact ⟨_, op_mulW, i, j, rfl, rfl, by simpa [mulOk, CMulW] using hc, k.val (.int _)⟩
    · cases e
  · rename_i xs j
    split at e
    · rename_i hc
      cases e
      cases Rv.intE rp
      obtain ⟨a, us, rfl, h1, h2, h3⟩ := Rv.tupE ro
      have l1 := RvA.length h3
      simp only [Bool.and_eq_true, decide_eq_true_eq, Bool.not_eq_true'] at hc
      obtain ⟨⟨c1, c2⟩, c3, c4⟩ := hc
      refine ⟨_, op_repT, a, j, us, rfl, rfl, h1, fun e => ?_, c1, c2, by omega, fun p hp => ?_⟩
      · subst e
        cases h3
        cases c4
      · exact k.tnew (h3.rep _) (by rw [rep_len]; exact rep_SZ (by omega) (by omega)) hp
    · cases e
  · rename_i xs j
    split at e
    · rename_i hc
      cases e
      cases Rv.intE rp
      obtain ⟨a, us, rfl, nf, h1, h2, h3⟩ := ro
      have l1 := RvA.length h3
      simp only [Bool.and_eq_true, decide_eq_true_eq] at hc
      obtain ⟨⟨c1, c2⟩, c3⟩ := hc
      refine ⟨_, op_rep, a, j, us, rfl, rfl, h1, by omega, by omega, ?_, fun p hp => ?_⟩
      · rw [← SZ_eq, Nat.mul_comm]
        exact rep_SZ (by omega) (by omega)
      · exact k.lnew d (h3.rep _) (by rw [rep_len]; exact rep_SZ (by omega) (by omega)) hp
    · cases e
  · cases e
def opOf : BOp → Operator
  | .add => .Add | .sub => .Sub | .mul => .Mult | .fdv => .FloorDiv | .mod => .Mod | .pow => .Pow | .shl => .LShift | .shr => .RShift | .band => .BitAnd
theorem log2_lt {n : Nat} {k : Nat} (h : n.log2 < k) : n < 2 ^ k := by
  by_cases z : n = 0
  · subst z
    exact Nat.pos_of_neZero _
  · exact (Nat.log2_lt z).mp h
theorem powOk_ok {i j : Int} (h : powOk i j = true) : CPow i j := by
  unfold powOk at h
  simp only [Bool.and_eq_true, decide_eq_true_eq] at h
  obtain ⟨⟨h1, h2⟩, h3⟩ := h
  refine ⟨h1, h2, ?_⟩
  have := log2_lt h3
  omega
theorem divOk_ok {i j : Int} (h : divOk j = true) : CDivW i j := by
  unfold divOk at h
  simp only [Bool.and_eq_true, decide_eq_true_eq] at h
  exact h
theorem rI0_I {X : Cx} {g : Value → Value → Sem Value} {f : Int → Int → V} (h : OpR X g (rI0 f)) : OpR X g (rI (fun _ _ => True) f) := weak h fun x y H Q ⟨i, j, e1, e2, _, q⟩ => ⟨i, j, e1, e2, q⟩
theorem op_bin {X : Cx} : ∀ op : BOp, Op2 X (binaryOp (opOf op)) (binO op)
  | .add => op_add'
  | .sub => op_ints (rI0_I op_sub) fun _ _ _ => trivial
  | .mul => op_mul'
  | .fdv => op_ints op_fdivW fun _ _ => divOk_ok
  | .mod => op_ints op_mod fun _ _ h => of_decide_eq_true h
  | .pow => op_ints op_pow fun _ _ => powOk_ok
  | .shl => op_ints op_shl fun _ _ => powOk_ok
  | .shr => op_ints op_shr fun _ _ h => of_decide_eq_true h
  | .band => op_ints (rI0_I op_and) fun _ _ _ => trivial
end Mp
end

/-! ## MpDict -/
section
set_option linter.all false
set_option maxRecDepth 100000
/-! Mp: dicts: what stands at a key. -/
namespace Mp
open PySem PySem.Spec PyProof.Rows L2
/-! ### keys as data -/
theorem eqv_key : ∀ k j : Key, PyData.eqv (keyData k) (keyData j) = decide (k = j)
  | .inl a, .inl b => by
    show (a == b) = _
    rw [Bool.eq_iff_iff]
    simp
  | .inr a, .inr b => by
    show (a == b) = _
    rw [Bool.eq_iff_iff]
    simp
  | .inl a, .inr b => by
    show false = _
    simp
  | .inr a, .inl b => by
    show false = _
    simp
theorem eqv_keys : ∀ ks js : List Key, PyData.eqvAll (ks.map keyData) (js.map keyData) = decide (ks = js)
  | [], [] => by simp [PyData.eqvAll]
  | [], _ :: _ => by simp [PyData.eqvAll]
  | _ :: _, [] => by simp [PyData.eqvAll]
  | k :: ks, j :: js => by
    rw [List.map_cons, List.map_cons, PyData.eqvAll, eqv_key, eqv_keys ks js, Bool.eq_iff_iff]
    simp
theorem eqv_tup (ks js : List Key) : PyData.eqv (.tuple (ks.map keyData)) (.tuple (js.map keyData)) = decide (ks = js) := by
  rw [PyData.eqv]
  exact eqv_keys ks js
section
variable {K : PySem.W.Frag} {F : Addr → Prop} {H : Hp}
/-- a flat key -/
theorem keyF_of {d : D} {v : V} (h : keyF d = true) (r : Rv K F H v d) : ∃ k, d = keyData k ∧ v = kV k := by
  cases d with
  | int i => exact ⟨.inl i, rfl, Rv.intE r⟩
  | str s => exact ⟨.inr s, rfl, (Rv.strE r).1⟩
  | _ => cases h
theorem keysF_of : ∀ {ds : List D} {vs : List V}, ds.all keyF = true → RvA K F H vs ds → ∃ ks : List Key, ds = ks.map keyData ∧ vs = ks.map kV
  | [], _, _, r => by
    cases r
    exact ⟨[], rfl, rfl⟩
  | d :: ds, _, h, r => by
    cases r with
    | cons r1 r2 =>
      obtain ⟨h1, h2⟩ := Bool.and_eq_true_iff.mp (show (keyF d && ds.all keyF) = true from h)
      obtain ⟨k, rfl, rfl⟩ := keyF_of h1 r1
      obtain ⟨ks, rfl, rfl⟩ := keysF_of h2 r2
      exact ⟨k :: ks, rfl, rfl⟩
/-- a key: flat, or a tuple of flat ones -/
theorem keyD_of {d : D} {v : V} (h : keyD d = true) (r : Rv K F H v d) : (∃ k, d = keyData k ∧ v = kV k) ∨ ∃ (ks : List Key) (b : Addr), d = .tuple (ks.map keyData) ∧ v = .ref b ∧ SqT K H b (ks.map kV) := by
  cases d with
  | int i => exact .inl ⟨.inl i, rfl, Rv.intE r⟩
  | str s => exact .inl ⟨.inr s, rfl, (Rv.strE r).1⟩
  | tuple ds =>
    obtain ⟨b, xs, rfl, h1, h2, h3⟩ := Rv.tupE r
    obtain ⟨ks, rfl, rfl⟩ := keysF_of h h3
    exact .inr ⟨ks, b, rfl, rfl, h1⟩
  | _ => cases h
/-! ### what stands at a key -/
theorem getK_K : ∀ {kvs : List (Key × V)} {ds : List (D × D)} (k : Key), RvK K F H kvs ds → (∃ d v, getK ds (keyData k) = some d ∧ valV kvs k = some v ∧ Rv K F H v d) ∨ (getK ds (keyData k) = none ∧ valV kvs k = none)
  | _, [], k, h => by
    cases h
    exact .inr ⟨rfl, rfl⟩
  | _, _ :: ds, k, h => by
    cases h with
    | @cons j v vs d _ h1 h2 =>
      unfold getK
      rw [eqv_key]
      by_cases e : j = k
      · rw [if_pos (decide_eq_true e)]
        exact .inl ⟨d, v, rfl, valV_pos e, h1⟩
      · rw [if_neg (by simp [e]), valV_neg e]
        exact getK_K k h2
theorem getK_T : ∀ {kvs : List (List Key × V)} {ds : List (D × D)} (k : List Key), RvT K F H kvs ds → (∃ d v, getK ds (.tuple (k.map keyData)) = some d ∧ valV kvs k = some v ∧ Rv K F H v d) ∨ (getK ds (.tuple (k.map keyData)) = none ∧ valV kvs k = none)
  | _, [], k, h => by
    cases h
    exact .inr ⟨rfl, rfl⟩
  | _, _ :: ds, k, h => by
    cases h with
    | @cons j v vs d _ h1 h2 =>
      unfold getK
      rw [eqv_tup]
      by_cases e : j = k
      · rw [if_pos (decide_eq_true e)]
        exact .inl ⟨d, v, rfl, valV_pos e, h1⟩
      · rw [if_neg (by simp [e]), valV_neg e]
        exact getK_T k h2
theorem anyK : ∀ {kvs : List (Key × V)} {ds : List (D × D)} (k : Key), RvK K F H kvs ds → (ds.any fun p => PyData.eqv p.1 (keyData k)) = kvs.any fun kv => decide (kv.1 = k)
  | _, [], k, h => by
    cases h
    rfl
  | _, _ :: ds, k, h => by
    cases h with
    | cons h1 h2 => rw [List.any_cons, List.any_cons, eqv_key, anyK k h2]
theorem anyT : ∀ {kvs : List (List Key × V)} {ds : List (D × D)} (k : List Key), RvT K F H kvs ds → (ds.any fun p => PyData.eqv p.1 (.tuple (k.map keyData))) = kvs.any fun kv => decide (kv.1 = k)
  | _, [], k, h => by
    cases h
    rfl
  | _, _ :: ds, k, h => by
    cases h with
    | cons h1 h2 => rw [List.any_cons, List.any_cons, eqv_tup, anyT k h2]
theorem mapK {v : V} {d : D} (hv : Rv K F H v d) : ∀ {kvs : List (Key × V)} {ds : List (D × D)} (k : Key), RvK K F H kvs ds →
    RvK K F H (kvs.map fun kv => if kv.1 = k then (kv.1, v) else kv) (ds.map fun p => if PyData.eqv p.1 (keyData k) = true then (p.1, d) else p)
  | _, [], k, h => by
    cases h
    exact .nil
  | _, _ :: ds, k, h => by
    cases h with
    | @cons j u vs d1 _ h1 h2 =>
      rw [List.map_cons, List.map_cons, eqv_key]
      by_cases e : j = k
      · rw [if_pos e, if_pos (decide_eq_true e)]
        exact .cons hv (mapK hv k h2)
      · rw [if_neg e, if_neg (by simp [e])]
        exact .cons h1 (mapK hv k h2)
theorem mapT {v : V} {d : D} (hv : Rv K F H v d) : ∀ {kvs : List (List Key × V)} {ds : List (D × D)} (k : List Key), RvT K F H kvs ds →
    RvT K F H (kvs.map fun kv => if kv.1 = k then (kv.1, v) else kv) (ds.map fun p => if PyData.eqv p.1 (.tuple (k.map keyData)) = true then (p.1, d) else p)
  | _, [], k, h => by
    cases h
    exact .nil
  | _, _ :: ds, k, h => by
    cases h with
    | @cons j u vs d1 _ h1 h2 =>
      rw [List.map_cons, List.map_cons, eqv_tup]
      by_cases e : j = k
      · rw [if_pos e, if_pos (decide_eq_true e)]
        exact .cons hv (mapT hv k h2)
      · rw [if_neg e, if_neg (by simp [e])]
        exact .cons h1 (mapT hv k h2)
theorem RvK.snoc : ∀ {kvs : List (Key × V)} {ds : List (D × D)} {k : Key} {v : V} {d : D}, RvK K F H kvs ds → Rv K F H v d → RvK K F H (kvs ++ [(k, v)]) (ds ++ [(keyData k, d)])
  | _, [], k, _, _, h, r => by
    cases h
    exact .cons r .nil
  | _, _ :: ds, k, _, _, h, r => by
    cases h with
    | cons h1 h2 => exact .cons h1 (RvK.snoc h2 r)
theorem RvT.snoc : ∀ {kvs : List (List Key × V)} {ds : List (D × D)} {k : List Key} {v : V} {d : D}, RvT K F H kvs ds → Rv K F H v d → RvT K F H (kvs ++ [(k, v)]) (ds ++ [(.tuple (k.map keyData), d)])
  | _, [], k, _, _, h, r => by
    cases h
    exact .cons r .nil
  | _, _ :: ds, k, _, _, h, r => by
    cases h with
    | cons h1 h2 => exact .cons h1 (RvT.snoc h2 r)
theorem putK_K {kvs : List (Key × V)} {ds : List (D × D)} {k : Key} {v : V} {d : D} (h : RvK K F H kvs ds) (r : Rv K F H v d) : RvK K F H (L2.putK kvs k v) (Mp.putK ds (keyData k) d) := by
  unfold L2.putK Mp.putK
  rw [anyK k h]
  split
  · exact mapK r k h
  · exact h.snoc r
theorem putK_T {kvs : List (List Key × V)} {ds : List (D × D)} {k : List Key} {v : V} {d : D} (h : RvT K F H kvs ds) (r : Rv K F H v d) : RvT K F H (L2.putK kvs k v) (Mp.putK ds (.tuple (k.map keyData)) d) := by
  unfold L2.putK Mp.putK
  rw [anyT k h]
  split
  · exact mapT r k h
  · exact h.snoc r
theorem putK_len {κ : Type} [DecidableEq κ] (kvs : List (κ × V)) (k : κ) (v : V) : (L2.putK kvs k v).length ≤ kvs.length + 1 := by
  unfold L2.putK
  split
  · rw [List.length_map]
    omega
  · rw [List.length_append]
    exact Nat.le_refl _
/-- the dict at a, as data, may be asked at the key y -/
inductive DA (K : PySem.W.Frag) (F : Addr → Prop) (H : Hp) (a : Addr) : List (D × D) → V → D → Prop
  | k {kvs : List (Key × V)} {ds : List (D × D)} (k : Key) : H a = some (.dK kvs) → RvK K F H kvs ds → DA K F H a ds (kV k) (keyData k)
  | t {kvs : List (List Key × V)} {ds : List (D × D)} (k : List Key) {b : Addr} : H a = some (.dT kvs) → RvT K F H kvs ds → SqT K H b (k.map kV) → DA K F H a ds (.ref b) (.tuple (k.map keyData))
  | e (k : List Key) {b : Addr} : H a = some (.dK []) → SqT K H b (k.map kV) → DA K F H a [] (.ref b) (.tuple (k.map keyData))
theorem tupK_key (k : Key) : tupK (keyData k) = false := by cases k <;> rfl
theorem allK : ∀ {kvs : List (Key × V)} {ds : List (D × D)}, RvK K F H kvs ds → ds ≠ [] → ∃ p ∈ ds, tupK p.1 = false
  | _, [], _, n => absurd rfl n
  | _, _ :: ds, h, _ => by
    cases h with
    | @cons j u vs d1 _ h1 h2 => exact ⟨_, List.mem_cons_self, tupK_key j⟩
theorem allT : ∀ {kvs : List (List Key × V)} {ds : List (D × D)}, RvT K F H kvs ds → ds ≠ [] → ∃ p ∈ ds, tupK p.1 = true
  | _, [], _, n => absurd rfl n
  | _, _ :: ds, h, _ => by
    cases h with
    | @cons j u vs d1 _ h1 h2 => exact ⟨_, List.mem_cons_self, rfl⟩
/-- the dict and the key as they may be asked -/
theorem da_of {o : O} {ds : List (D × D)} {x y : V} {k : D} (h : RO K F H o x) (e : dctO o = some ds) (ok : kOk ds k = true) (r : Rv K F H y k) : ∃ a, x = .ref a ∧ DA K F H a ds y k := by
  obtain ⟨ok1, ok2⟩ := Bool.and_eq_true_iff.mp ok
  rw [List.all_eq_true] at ok2
  obtain ⟨a, rfl, q⟩ := h.dct e
  refine ⟨a, rfl, ?_⟩
  rcases keyD_of ok1 r with ⟨j, rfl, rfl⟩ | ⟨ks, b, rfl, rfl, hb⟩
  · rcases q with ⟨kvs, q, l, rs⟩ | ⟨kvs, q, ⟨n, l⟩, rs⟩
    · exact .k j q rs
    · have nn : ds ≠ [] := fun z => by
        subst z
        cases rs
        exact n rfl
      obtain ⟨p, hp, e1⟩ := allT rs nn
      have := ok2 p hp
      rw [e1, tupK_key] at this
      cases this
  · rcases q with ⟨kvs, q, l, rs⟩ | ⟨kvs, q, ⟨n, l⟩, rs⟩
    · by_cases nn : ds = []
      · subst nn
        cases rs
        exact .e ks q hb
      · obtain ⟨p, hp, e1⟩ := allK rs nn
        have := ok2 p hp
        rw [e1] at this
        cases this
    · exact .t ks q rs hb
end
section
variable {X : Cx} {pins : List (Addr × Obj)} {σ : L2.St} {F : Addr → Prop} {H : Hp} {s : Shared}
theorem key_ofS (I : Inv X pins σ H s) {b : Addr} {ks : List Key} (h : SqT X.K H b (ks.map kV)) : (tupleKind (mixKind X.prog X.w)).is s.heap ks b := by
  obtain ⟨its, r, ⟨o, h1, h2, n, h3⟩, _⟩ := I.tuple h
  exact ⟨o, its.toArray, n, h1, h2, h3, by simpa using items_are r⟩
/-- a dict of tuple keys, or an empty one -/
theorem dt_any (I : Inv X pins σ H s) {a : Addr} {kvs : List (List Key × V)} (h : H a = some (.dT kvs) ∨ (H a = some (.dK []) ∧ kvs = [])) : (a == sysModules) = false ∧ ∃ xs, KT H kvs xs ∧ s.heap.DictOfH (tupleKind (mixKind X.prog X.w)) a xs := by
  rcases h with h | ⟨h, rfl⟩
  · obtain ⟨_, hd, xs, rel, dd⟩ := dt_rd I.hok (.inl h)
    exact ⟨hd, xs, rel, dd⟩
  · obtain ⟨_, hd, vs, rel, o, es, ep, h1, h2, h3, h4, h5, h6⟩ := dk_rd I.hok (.inl h)
    cases rel
    refine ⟨hd, [], .nil, o, es, ep, h1, h2, h3, ?_, fun x hx => (nomatch hx), List.nodup_nil⟩
    cases q : es.toList with
    | nil => rfl
    | cons e r =>
      rw [q] at h5
      cases h5
theorem da_get {K : PySem.W.Frag} {F : Addr → Prop} {H : Hp} {a : Addr} {ds : List (D × D)} {y : V} {k : D} (h : DA K F H a ds y k) : (∃ (kvs : List (Key × V)) (j : Key), H a = some (.dK kvs) ∧ y = kV j ∧ k = keyData j ∧ RvK K F H kvs ds) ∨
    ∃ (kvs : List (List Key × V)) (j : List Key) (b : Addr), (H a = some (.dT kvs) ∨ (H a = some (.dK []) ∧ kvs = [])) ∧ y = .ref b ∧ SqT K H b (j.map kV) ∧ k = .tuple (j.map keyData) ∧ RvT K F H kvs ds := by
  cases h with
  | k j h1 h2 => exact .inl ⟨_, j, h1, rfl, rfl, h2⟩
  | t j h1 h2 h3 => exact .inr ⟨_, j, _, .inl h1, rfl, h3, rfl, h2⟩
  | e j h1 h3 => exact .inr ⟨[], j, _, .inr ⟨h1, rfl⟩, rfl, h3, rfl, .nil⟩
variable {A : Around} {E : Value → Shared → Prop}
theorem da_getItem {Q : Value → Shared → Prop} {a : Addr} {ds : List (D × D)} {y : V} {k d : D} {u : Value} (hu : A.units + 1 < cLine) (I : Inv X pins σ H s) (g : DA X.K F H a ds y k) (e : getK ds k = some d) (ry : RelV y u)
    (h : ∀ v w' s', Inv X pins σ H s' → Rv X.K F H v d → RelV v w' → Q w' s') : wpAny (model X.prog X.w) A (getItem (.ref a) u) Q E s := by
  rcases da_get g with ⟨kvs, j, q, rfl, rfl, rs⟩ | ⟨kvs, j, b, q, rfl, hb, rfl, rs⟩
  · rcases getK_K j rs with ⟨d', v, e1, e2, rv⟩ | ⟨e1, _⟩
    · rw [e] at e1
      cases e1
      exact d_getItem hu I (.inl ⟨kvs, j, .inl q, rfl, e2.symm⟩) ry fun w' s' I' rw' => h v w' s' I' rv rw'
    · rw [e] at e1
      cases e1
  · rcases getK_T j rs with ⟨d', v, e1, e2, rv⟩ | ⟨e1, _⟩
    · rw [e] at e1
      cases e1
      cases (show u = Value.ref b from ry)
      obtain ⟨hd, xs, rel, dd⟩ := dt_any I q
      obtain ⟨w', hw, rw'⟩ := RelO.some_of (v := v) (o := (atKey xs j).map (·.2)) (by rw [← e2]; exact rel.val j)
      obtain ⟨p, hp, hp2⟩ := Option.map_eq_some_iff.mp hw
      refine wpAny_getItem_heap (tupleKind_room_in1 hu) (key_ofS I hb) dd hp ?_
      rw [hp2]
      exact h v w' _ (I.tok _) rv rw'
    · rw [e] at e1
      cases e1
theorem getK_iff_K {kvs : List (Key × V)} {ds : List (D × D)} (k : Key) (h : RvK X.K F H kvs ds) : (getK ds (keyData k)).isSome = (valV kvs k).isSome := by
  rcases getK_K k h with ⟨d, v, e1, e2, _⟩ | ⟨e1, e2⟩
  · rw [e1, e2]
    rfl
  · rw [e1, e2]
    rfl
theorem getK_iff_T {kvs : List (List Key × V)} {ds : List (D × D)} (k : List Key) (h : RvT X.K F H kvs ds) : (getK ds (.tuple (k.map keyData))).isSome = (valV kvs k).isSome := by
  rcases getK_T k h with ⟨d, v, e1, e2, _⟩ | ⟨e1, e2⟩
  · rw [e1, e2]
    rfl
  · rw [e1, e2]
    rfl
theorem da_in {Q : Value → Shared → Prop} {a : Addr} {ds : List (D × D)} {y : V} {k : D} {u : Value} (hu : A.units + 1 < cLine) (I : Inv X pins σ H s) (g : DA X.K F H a ds y k) (ry : RelV y u)
    (h : ∀ s', Inv X pins σ H s' → Q (.bool (getK ds k).isSome) s') : wpAny (model X.prog X.w) A (compareOp .In u (.ref a)) Q E s := by
  rcases da_get g with ⟨kvs, j, q, rfl, rfl, rs⟩ | ⟨kvs, j, b, q, rfl, hb, rfl, rs⟩
  · rw [getK_iff_K j rs] at h
    exact d_in hu I (.inl ⟨kvs, j, .inl q, rfl, rfl⟩) ry h
  · rw [getK_iff_T j rs] at h
    cases (show u = Value.ref b from ry)
    obtain ⟨hd, xs, rel, dd⟩ := dt_any I q
    refine wpAny_in_heap (tupleKind_room_in1 hu) (key_ofS I hb) hd dd ?_
    have q := (rel.val j).isSome_eq
    rw [Option.isSome_map] at q
    rw [← q]
    exact h _ (I.tok _)
theorem da_notIn {Q : Value → Shared → Prop} {a : Addr} {ds : List (D × D)} {y : V} {k : D} {u : Value} (hu : A.units + 1 < cLine) (I : Inv X pins σ H s) (g : DA X.K F H a ds y k) (ry : RelV y u)
    (h : ∀ s', Inv X pins σ H s' → Q (.bool (!(getK ds k).isSome)) s') : wpAny (model X.prog X.w) A (compareOp .NotIn u (.ref a)) Q E s := by
  rcases da_get g with ⟨kvs, j, q, rfl, rfl, rs⟩ | ⟨kvs, j, b, q, rfl, hb, rfl, rs⟩
  · rw [getK_iff_K j rs] at h
    exact d_notIn hu I (.inl ⟨kvs, j, .inl q, rfl, rfl⟩) ry h
  · rw [getK_iff_T j rs] at h
    cases (show u = Value.ref b from ry)
    obtain ⟨hd, xs, rel, dd⟩ := dt_any I q
    refine wpAny_notIn_heap (tupleKind_room_in1 hu) (key_ofS I hb) hd dd ?_
    have q := (rel.val j).isSome_eq
    rw [Option.isSome_map] at q
    rw [← q]
    exact h _ (I.tok _)
theorem da_typeIs {a : Addr} {ds : List (D × D)} {y : V} {k : D} (I : Inv X pins σ H s) (g : DA X.K F H a ds y k) : s.TypeIs (.ref a) "dict" := by
  have : IsD H a := by
    rcases da_get g with ⟨kvs, j, q, _⟩ | ⟨kvs, j, b, q | ⟨q, _⟩, _⟩
    · exact .inl ⟨kvs, .inl q⟩
    · exact .inr ⟨kvs, .inl q⟩
    · exact .inl ⟨[], .inl q⟩
  exact (isD_at I this).1
end
end Mp
end

/-! ## MpGo -/
section
set_option linter.all false
set_option maxRecDepth 100000
/-! Mp: from one state to a later one. -/
namespace Mp
open PySem PySem.Spec PyProof.Rows L2
section
variable {K : PySem.W.Frag} {F F' F1 F2 : Addr → Prop} {H H' H1 H2 H0 : Hp} {r r' r1 r2 r0 : En} {σ σ' σ1 σ2 σ0 : L2.St} {W W' : Nat → Prop}
/-- from one state to a later one; the slots W may have been stored -/
structure Go (K : PySem.W.Frag) (W : Nat → Prop) (F : Addr → Prop) (H : Hp) (r : En) (σ : L2.St) (F' : Addr → Prop) (H' : Hp) (r' : En) (σ' : L2.St) : Prop where
  ex : Ex (Ow r σ) F H F' H'
  re : RE K F' H' r' σ'
  sub : ∀ i o a, r'.at i = some o → isOwn o = true → σ'[i]? = some (some (.ref a)) → (∃ o0, r.at i = some o0 ∧ isOwn o0 = true ∧ σ[i]? = some (some (.ref a))) ∨ (W i ∧ H a = none)
  fix : ∀ i, ¬ W i → σ'[i]? = σ[i]?
  ln : σ'.length = σ.length
theorem Go.own (g : Go K W F H r σ F' H' r' σ') : ∀ a, Ow r' σ' a → Ow r σ a ∨ H a = none := fun a ⟨i, o, h1, h2, h3⟩ => by
  rcases g.sub i o a h1 h2 h3 with ⟨o0, q1, q2, q3⟩ | ⟨_, q⟩
  · exact .inl ⟨i, o0, q1, q2, q3⟩
  · exact .inr q
theorem Go.refl (e : RE K F H r σ) : Go K W F H r σ F H r σ := ⟨.refl, e, fun i o a h1 h2 h3 => .inl ⟨o, h1, h2, h3⟩, fun _ _ => rfl, rfl⟩
theorem Go.trans (x : Go K W F H r σ F1 H1 r1 σ1) (y : Go K W F1 H1 r1 σ1 F2 H2 r2 σ2) : Go K W F H r σ F2 H2 r2 σ2 where
  ex := x.ex.trans y.ex x.own
  re := y.re
  sub := fun i o a h1 h2 h3 => by
    rcases y.sub i o a h1 h2 h3 with ⟨o0, q1, q2, q3⟩ | ⟨w, q⟩
    · exact x.sub i o0 a q1 q2 q3
    · exact .inr ⟨w, x.ex.dom a q⟩
  fix := fun i n => (y.fix i n).trans (x.fix i n)
  ln := y.ln.trans x.ln
theorem Go.wide (x : Go K W F H r σ F' H' r' σ') (h : ∀ i, W i → W' i) : Go K W' F H r σ F' H' r' σ' :=
  ⟨x.ex, x.re, fun i o a h1 h2 h3 => (x.sub i o a h1 h2 h3).imp id (And.imp (h i) id), fun i n => x.fix i fun w => n (h i w), x.ln⟩
/-- nothing that stands is changed -/
theorem RE.mono0 (e : RE K F H r σ) (x : Sub H H') : RE K F H' r σ :=
  ⟨e.len, fun i o h => by
    obtain ⟨v, e1, ro⟩ := e.val i o h
    exact ⟨v, e1, ro.mono Mok.none x.ex fun _ _ _ z => z⟩, e.sep, fun a f z => e.dom a f ((x.ex (F := F)).dom a z)⟩
theorem Go.pure (e : RE K F H r σ) (x : Sub H H') : Go K W F H r σ F H' r σ :=
  ⟨x.ex.mono fun _ z => z.elim, e.mono0 x, fun i o a h1 h2 h3 => .inl ⟨o, h1, h2, h3⟩, fun _ _ => rfl, rfl⟩
/-- an expression's step: no slot is stored -/
def W0 : Nat → Prop := fun _ => False
abbrev GoE (K : PySem.W.Frag) (F : Addr → Prop) (H : Hp) (r : En) (σ : L2.St) (F' : Addr → Prop) (H' : Hp) (r' : En) : Prop := Go K W0 F H r σ F' H' r' σ
theorem GoE.own (g : GoE K F H r σ F' H' r') : ∀ a, Ow r' σ a → Ow r σ a := fun a ⟨i, o, h1, h2, h3⟩ => by
  rcases g.sub i o a h1 h2 h3 with ⟨o0, q1, q2, q3⟩ | ⟨w, q⟩
  · exact ⟨i, o0, q1, q2, q3⟩
  · exact w.elim
theorem RE.ow_some (e : RE K F H r σ) {a : Addr} (w : Ow r σ a) : H a ≠ none := fun z => by
  obtain ⟨_, o, q, _⟩ := e.mok a w
  rw [z] at q
  cases q
/-- what an expression gave: own things are new, no slot's own -/
def RR (K : PySem.W.Frag) (F' : Addr → Prop) (H' : Hp) (r' : En) (σ : L2.St) (H : Hp) (o : O) (v : V) : Prop := RO K F' H' o v ∧ (isOwn o = true → ∀ a, v = .ref a → H a = none ∧ ¬ Ow r' σ a)
theorem RR.v {d : D} {v : V} (h : Rv K F' H' v d) : RR K F' H' r' σ H (.v d) v := ⟨h, fun z => nomatch z⟩
theorem RR.of (e : RE K F H r σ) (g : GoE K F H r σ F' H' r') {o : O} {v : V} (h : RO K F' H' o v) (n : isOwn o = true → ∀ a, v = .ref a → H a = none) : RR K F' H' r' σ H o v :=
  ⟨h, fun w a z => ⟨n w a z, fun k => e.ow_some (g.own a k) (n w a z)⟩⟩
/-- an operand: a value, or a slot to be read -/
def RA (K : PySem.W.Frag) (F' : Addr → Prop) (H' : Hp) (r' : En) (σ : L2.St) (H : Hp) (x : Ar) (v : V) : Prop := match x with
  | .v o => RR K F' H' r' σ H o v
  | .s i => σ[i]? = some (some v)
theorem RR.go (e : RE K F H r σ) {o : O} {v : V} (h : RR K F H r σ H0 o v) (g : GoE K F H r σ F' H' r') : RR K F' H' r' σ H0 o v :=
  ⟨h.1.mono e.mok g.ex fun w a z => (h.2 w a z).2, fun w a z => ⟨(h.2 w a z).1, fun k => (h.2 w a z).2 (g.own a k)⟩⟩
theorem RA.go (e : RE K F H r σ) {x : Ar} {v : V} (h : RA K F H r σ H0 x v) (g : GoE K F H r σ F' H' r') : RA K F' H' r' σ H0 x v := by
  cases x with
  | v o => exact RR.go e h g
  | s i => exact h
theorem RA.read (e : RE K F H r σ) {x : Ar} {v : V} {o : O} (h : RA K F H r σ H0 x v) (q : rdA r x = some o) : RO K F H o v := by
  cases x with
  | v u =>
    cases q
    exact h.1
  | s i =>
    obtain ⟨u, e1, ro⟩ := e.val i o q
    rw [show σ[i]? = some (some v) from h] at e1
    cases e1
    exact ro
theorem at_set (r : En) (i j : Nat) (x : Option O) : En.at (r.set i x) j = if i = j ∧ i < r.length then x else r.at j := by
  unfold En.at
  by_cases h : i = j
  · subst h
    by_cases l : i < r.length
    · rw [if_pos ⟨rfl, l⟩, List.getElem?_set_self l]
      rfl
    · rw [if_neg (fun z => l z.2), List.set_eq_of_length_le (Nat.le_of_not_lt l)]
  · rw [if_neg (fun z => h z.1), List.getElem?_set_ne h]
theorem at_lt {i : Nat} {o : O} (h : r.at i = some o) : i < r.length := by
  unfold En.at at h
  cases q : r[i]? with
  | none =>
    rw [q] at h
    cases h
  | some x => exact (List.getElem?_eq_some_iff.mp q).1
/-- add an address to what is frozen -/
def frz (F : Addr → Prop) (a : Addr) : Addr → Prop := fun b => F b ∨ b = a
/-- a value that is no slot's own becomes pure -/
theorem RO.pure {o : O} {v : V} (h : RO K F H o v) (hw : isOwn o = true) : ∃ a, v = .ref a ∧ ¬ F a ∧ Rv K (frz F a) H v o.d := by
  cases o with
  | v d => cases hw
  | lst ds =>
    obtain ⟨a, xs, rfl, n, q, l, rs⟩ := h
    have m : RvA K (frz F a) H xs ds := by
      have : Ex (fun b => b = a) F H (frz F a) H := ⟨fun _ _ e _ => e, fun _ h => .inl h, fun _ h => h.imp id .inl, fun _ h => h⟩
      exact RvA.mono (M := fun b => b = a) (fun b z => by
        subst z
        exact ⟨n, _, q, trivial⟩) this rs
    exact ⟨a, rfl, n, .lst (.inl ⟨.inr rfl, q⟩) l m⟩
  | dct ds =>
    obtain ⟨a, rfl, n, q⟩ := h
    have x : Ex (fun b => b = a) F H (frz F a) H := ⟨fun _ _ e _ => e, fun _ h => .inl h, fun _ h => h.imp id .inl, fun _ h => h⟩
    rcases q with ⟨kvs, q, l, rs⟩ | ⟨kvs, q, l, rs⟩
    · exact ⟨a, rfl, n, .dK (.inr rfl) q l (RvK.mono (M := fun b => b = a) (fun b z => by
        subst z
        exact ⟨n, _, q, trivial⟩) x rs)⟩
    · exact ⟨a, rfl, n, .dT (.inr rfl) q l (RvT.mono (M := fun b => b = a) (fun b z => by
        subst z
        exact ⟨n, _, q, trivial⟩) x rs)⟩
/-- the frozen grow: all else is as it was -/
theorem RO.frz {a : Addr} {u : HO} {o : O} {v : V} (n : ¬ F a) (q : H a = some u) (m : MutO u) (h : RO K F H o v) (w : isOwn o = true → v ≠ .ref a) : RO K (frz F a) H o v :=
  h.mono (M := fun b => b = a) (fun b z => by
    subst z
    exact ⟨n, u, q, m⟩) ⟨fun _ _ e _ => e, fun _ h => .inl h, fun _ h => h.imp id .inl, fun _ h => h⟩ fun ho b e z => by
      subst z
      exact w ho e
/-- F'' is F, with an address more at most -/
def FrzTo (F F'' : Addr → Prop) (H : Hp) : Prop := F'' = F ∨ ∃ a u, F'' = Mp.frz F a ∧ ¬ F a ∧ H a = some u ∧ MutO u
theorem FrzTo.ex {F F'' : Addr → Prop} {H : Hp} (h : FrzTo F F'' H) : ∃ M, Mok M F H ∧ Ex M F H F'' H := by
  rcases h with rfl | ⟨a, u, rfl, n, q, m⟩
  · exact ⟨M0, Mok.none, .refl⟩
  · exact ⟨fun b => b = a, fun b z => by
      subst z
      exact ⟨n, u, q, m⟩, ⟨fun _ _ e _ => e, fun _ h => .inl h, fun _ h => h.imp id .inl, fun _ h => h⟩⟩
theorem FrzTo.rv {F F'' : Addr → Prop} {H : Hp} (h : FrzTo F F'' H) {v : V} {d : D} (r : Rv K F H v d) : Rv K F'' H v d := by
  obtain ⟨M, mk, x⟩ := h.ex
  exact r.mono mk x
theorem FrzTo.ro {F F'' : Addr → Prop} {H : Hp} (h : FrzTo F F'' H) {o : O} {v : V} (r : RO K F H o v) : RO K F'' H o v ∨ Rv K F'' H v o.d := by
  rcases h with rfl | ⟨a, u, rfl, n, q, m⟩
  · exact .inl r
  · by_cases c : isOwn o = true ∧ v = .ref a
    · obtain ⟨w, rfl⟩ := c
      obtain ⟨b, e, _, rv⟩ := r.pure w
      cases e
      exact .inr rv
    · exact .inl (r.frz n q m fun w z => c ⟨w, z⟩)
theorem Go.frzX (e0 : RE K F H r σ) (g : GoE K F H r σ F' H' r') {o : O} {v : V} (h : RR K F' H' r' σ H o v) : ∃ F'', GoE K F H r σ F'' H' r' ∧ Rv K F'' H' v o.d ∧ FrzTo F' F'' H' := by
  by_cases hw : isOwn o = true
  · obtain ⟨a, rfl, n, rv⟩ := h.1.pure hw
    obtain ⟨_, eb, _, u, q, m⟩ := h.1.mut hw
    cases eb
    obtain ⟨ha, hn⟩ := h.2 hw a rfl
    refine ⟨Mp.frz F' a, ⟨⟨g.ex.keep, fun b z => .inl (g.ex.fro b z), fun b z => ?_, g.ex.dom⟩, ⟨g.re.len, fun i p hp => ?_, g.re.sep, fun b z => ?_⟩, g.sub, g.fix, g.ln⟩, rv, .inr ⟨a, u, rfl, n, q, m⟩⟩
    · rcases z with z | z
      · exact g.ex.new b z
      · subst z
        exact .inr (.inr ha)
    · obtain ⟨v, e1, ro⟩ := g.re.val i p hp
      refine ⟨v, e1, ro.frz n q m fun ow z => hn ⟨i, p, hp, ow, ?_⟩⟩
      rw [e1, z]
    · rcases z with z | z
      · exact g.re.dom b z
      · subst z
        rw [q]
        exact fun z => nomatch z
  · cases o with
    | v d => exact ⟨F', g, h.1, .inl rfl⟩
    | lst _ => exact absurd rfl hw
    | dct _ => exact absurd rfl hw
theorem Go.frz (e0 : RE K F H r σ) (g : GoE K F H r σ F' H' r') {o : O} {v : V} (h : RR K F' H' r' σ H o v) : ∃ F'', GoE K F H r σ F'' H' r' ∧ Rv K F'' H' v o.d :=
  let ⟨F'', a, b, _⟩ := g.frzX e0 h
  ⟨F'', a, b⟩
/-- a slot's own thing becomes pure -/
theorem RE.frzAtX (e : RE K F H r σ) {i : Nat} {o : O} (h : r.at i = some o) : ∃ F' v, σ[i]? = some (some v) ∧ GoE K F H r σ F' H (r.set i (some (.v o.d))) ∧ Rv K F' H v o.d ∧ FrzTo F F' H := by
  obtain ⟨v, e1, ro⟩ := e.val i o h
  have lt := at_lt h
  by_cases hw : isOwn o = true
  · obtain ⟨a, rfl, n, rv⟩ := ro.pure hw
    obtain ⟨_, eb, _, u, q, m⟩ := ro.mut hw
    cases eb
    have oth : ∀ j p, En.at (r.set i (some (.v o.d))) j = some p → (j = i ∧ p = .v o.d) ∨ (i ≠ j ∧ r.at j = some p) := fun j p hp => by
      rw [at_set] at hp
      by_cases c : i = j
      · rw [if_pos ⟨c, lt⟩] at hp
        cases hp
        exact .inl ⟨c.symm, rfl⟩
      · rw [if_neg fun z => c z.1] at hp
        exact .inr ⟨c, hp⟩
    refine ⟨Mp.frz F a, _, e1, ⟨⟨fun _ _ q _ => q, fun _ z => .inl z, fun b z => ?_, fun _ z => z⟩, ⟨by rw [List.length_set]; exact e.len, fun j p hp => ?_, fun j k oj ok b hj hk wj wk sj sk => ?_, fun b z => ?_⟩, fun j p b hp ow sj => ?_, fun _ _ => rfl, rfl⟩, rv, .inr ⟨a, u, rfl, n, q, m⟩⟩
    · rcases z with z | z
      · exact .inl z
      · subst z
        exact .inr (.inl ⟨i, o, h, hw, e1⟩)
    · rcases oth j p hp with ⟨rfl, rfl⟩ | ⟨c, hp⟩
      · exact ⟨_, e1, rv⟩
      · obtain ⟨v, e2, ro2⟩ := e.val j p hp
        refine ⟨v, e2, ro2.frz n q m fun ow z => c ?_⟩
        exact e.sep i j o p a h hp hw ow e1 (by rw [e2, z])
    · rcases oth j oj hj with ⟨_, rfl⟩ | ⟨_, hj⟩
      · cases wj
      · rcases oth k ok hk with ⟨_, rfl⟩ | ⟨_, hk⟩
        · cases wk
        · exact e.sep j k oj ok b hj hk wj wk sj sk
    · rcases z with z | z
      · exact e.dom b z
      · subst z
        rw [q]
        exact fun z => nomatch z
    · rcases oth j p hp with ⟨_, rfl⟩ | ⟨_, hp⟩
      · cases ow
      · exact .inl ⟨p, hp, ow, sj⟩
  · cases o with
    | v d =>
      refine ⟨F, v, e1, ?_, ro, .inl rfl⟩
      have : r.set i (some (.v d)) = r := by
        unfold En.at at h
        apply List.ext_getElem?
        intro j
        by_cases c : i = j
        · subst c
          rw [List.getElem?_set_self lt]
          cases q : r[i]? with
          | none =>
            rw [q] at h
            cases h
          | some x =>
            rw [q] at h
            exact congrArg some h.symm
        · rw [List.getElem?_set_ne c]
      show GoE K F H r σ F H (r.set i (some (.v d)))
      rw [this]
      exact Go.refl e
    | lst _ => exact absurd rfl hw
    | dct _ => exact absurd rfl hw
theorem RE.frzAt (e : RE K F H r σ) {i : Nat} {o : O} (h : r.at i = some o) : ∃ F' v, σ[i]? = some (some v) ∧ GoE K F H r σ F' H (r.set i (some (.v o.d))) ∧ Rv K F' H v o.d :=
  let ⟨F', v, a, b, c, _⟩ := e.frzAtX h
  ⟨F', v, a, b, c⟩
end
end Mp
end

/-! ## MpExpr -/
section
set_option linter.all false
set_option maxRecDepth 100000
/-! Mp: expressions: what runs, reads as the small language says. -/
namespace Mp
open PySem PySem.Spec PyProof.Rows L2
/-! ### readings -/
section
variable (K : PySem.W.Frag)
/-- an expression's reading by its run -/
def TD (f : En → Option (O × En)) : TE := fun σ H Q => ∃ F r o r', RE K F H r σ ∧ f r = some (o, r') ∧ ∀ v H' F', GoE K F H r σ F' H' r' → RR K F' H' r' σ H o v → Q v H'
/-- an operand's -/
def TDA (f : En → Option (Ar × En)) : TE := fun σ H Q => ∃ F r x r', RE K F H r σ ∧ f r = some (x, r') ∧ ∀ v H' F', GoE K F H r σ F' H' r' → RA K F' H' r' σ H x v → Q v H'
/-- a test's -/
def TB (f : En → Option (O × En)) : TT := fun σ H Q => ∃ F r b r', RE K F H r σ ∧ f r = some (.v (.bool b), r') ∧ ∀ H' F', GoE K F H r σ F' H' r' → Q b H'
/-- values, pure -/
def TV (f : En → Option (List D × En)) : TA := fun σ H Q => ∃ F r ds r', RE K F H r σ ∧ f r = some (ds, r') ∧ ∀ vs H' F', GoE K F H r σ F' H' r' → RvA K F' H' vs ds → Q vs H'
/-- operands in a row -/
inductive RAs (F : Addr → Prop) (H : Hp) (r : En) (σ : L2.St) (H0 : Hp) : List Ar → List V → Prop
  | nil : RAs F H r σ H0 [] []
  | cons {x : Ar} {v : V} {xs : List Ar} {vs : List V} : RA K F H r σ H0 x v → RAs F H r σ H0 xs vs → RAs F H r σ H0 (x :: xs) (v :: vs)
def TAa (f : En → Option (List Ar × En)) : TA := fun σ H Q => ∃ F r as r', RE K F H r σ ∧ f r = some (as, r') ∧ ∀ vs H' F', GoE K F H r σ F' H' r' → RAs K F' H' r' σ H as vs → Q vs H'
/-- a list of tests -/
def TC (f : En → Option (Bool × En)) : TT := fun σ H Q => ∃ F r b r', RE K F H r σ ∧ f r = some (b, r') ∧ ∀ H' F', GoE K F H r σ F' H' r' → Q b H'
end
section
variable {X : Cx} {e : Expr} {t t' : TE}
theorem wk (h : PE X e t) (w : ∀ σ H Q, t' σ H Q → t σ H Q) : PE X e t' := ⟨fun pins s σ H Q I k => h.run pins s σ H Q I (w σ H Q k)⟩
theorem wkT {t t' : TT} (h : PT X e t) (w : ∀ σ H Q, t' σ H Q → t σ H Q) : PT X e t' := ⟨fun pins s σ H Q I k => h.run pins s σ H Q I (w σ H Q k)⟩
theorem wkW {t t' : TT} (h : PW X e t) (w : ∀ σ H Q, t' σ H Q → t σ H Q) : PW X e t' := ⟨fun wh pins s σ H Q I k => h.run wh pins s σ H Q I (w σ H Q k)⟩
theorem wkA {es : List Expr} {t t' : TA} (h : PA X es t) (w : ∀ σ H Q, t' σ H Q → t σ H Q) : PA X es t' := ⟨fun pos pins s σ H Q I k => h.run pos pins s σ H Q I (w σ H Q k)⟩
theorem wkS {st : Stmt} {t t' : TS} (h : PS X st t) (w : ∀ D σ H, t' D σ H → t D σ H) : PS X st t' := ⟨fun pins s σ H D I k => h.run pins s σ H D I (w D σ H k)⟩
end
section
variable {K : PySem.W.Frag} {F F' : Addr → Prop} {H H' H0 : Hp} {r r' : En} {σ : L2.St}
theorem RAs.go (e : RE K F H r σ) {xs : List Ar} {vs : List V} (h : RAs K F H r σ H0 xs vs) (g : GoE K F H r σ F' H' r') : RAs K F' H' r' σ H0 xs vs := by
  induction h with
  | nil => exact .nil
  | cons h1 _ ih => exact .cons (h1.go e g) ih
theorem RR.dom {H1 : Hp} {o : O} {v : V} (h : RR K F H r σ H1 o v) (d : ∀ a, H1 a = none → H0 a = none) : RR K F H r σ H0 o v := ⟨h.1, fun w a z => ⟨d a (h.2 w a z).1, (h.2 w a z).2⟩⟩
theorem RA.dom {H1 : Hp} {x : Ar} {v : V} (h : RA K F H r σ H1 x v) (d : ∀ a, H1 a = none → H0 a = none) : RA K F H r σ H0 x v := by
  cases x with
  | v o => exact RR.dom h d
  | s i => exact h
theorem RAs.dom {H1 : Hp} {xs : List Ar} {vs : List V} (h : RAs K F H r σ H1 xs vs) (d : ∀ a, H1 a = none → H0 a = none) : RAs K F H r σ H0 xs vs := by
  induction h with
  | nil => exact .nil
  | cons h1 _ ih => exact .cons (h1.dom d) ih
/-- values for O's -/
inductive ROs (K : PySem.W.Frag) (F : Addr → Prop) (H : Hp) : List O → List V → Prop
  | nil : ROs K F H [] []
  | cons {o : O} {v : V} {os : List O} {vs : List V} : RO K F H o v → ROs K F H os vs → ROs K F H (o :: os) (v :: vs)
theorem RAs.read (e : RE K F H r σ) : ∀ {xs : List Ar} {vs : List V} {os : List O}, RAs K F H r σ H0 xs vs → rdAs r xs = some os → ROs K F H os vs
  | [], _, _, h, q => by
    cases h
    cases q
    exact .nil
  | x :: xs, _, os, h, q => by
    cases h with
    | cons h1 h2 =>
      simp only [rdAs, Option.bind_eq_bind, Option.bind_eq_some_iff] at q
      obtain ⟨o, q1, os', q2, q3⟩ := q
      cases q3
      exact .cons (h1.read e q1) (RAs.read e h2 q2)
end
/-! ### two operands, one, many: rules by what operators make of data -/
abbrev RR1 (K : PySem.W.Frag) (f : O → Option O) : V → Hp → VK → Prop := fun x H Q => ∃ F o q, Dom F H ∧ RO K F H o x ∧ f o = some q ∧ Out K F H q Q
abbrev RRn (K : PySem.W.Frag) (f : List O → Option O) : List V → Hp → VK → Prop := fun xs H Q => ∃ F os q, Dom F H ∧ ROs K F H os xs ∧ f os = some q ∧ Out K F H q Q
abbrev RRm (K : PySem.W.Frag) (f : O → List O → Option O) : V → List V → Hp → VK → Prop := fun x xs H Q => ∃ F o os q, Dom F H ∧ RO K F H o x ∧ ROs K F H os xs ∧ f o os = some q ∧ Out K F H q Q
abbrev RRs (K : PySem.W.Frag) : V → Option Int → Option Int → Hp → VK → Prop := fun x lo hi H Q => ∃ F o q, Dom F H ∧ RO K F H o x ∧ slcO o lo hi = some q ∧ Out K F H q Q
def cmpB (op : COp) (a b : O) : Option O := (cmpO op a b).map fun k => .v (.bool k)
section
variable {K : PySem.W.Frag} {F F' F1 : Addr → Prop} {H H' H1 : Hp} {r r' r1 : En} {σ : L2.St} {Q : VK}
/-- an operator's answer is the expression's -/
theorem Out.fin (e : RE K F H r σ) (g : GoE K F H r σ F1 H1 r1) {q : O} (k : ∀ v H' F', GoE K F H r σ F' H' r1 → RR K F' H' r1 σ H q v → Q v H') : Out K F1 H1 q Q := fun v H' sub ro n => by
  have g2 : GoE K F H r σ F1 H' r1 := g.trans (Go.pure g.re sub)
  exact k v H' F1 g2 (.of e g2 ro fun w a z => g.ex.dom a (n w a z))
end
/-! ### constants, names -/
section
variable {X : Cx} {e : Expr} {pos : Pos}
theorem pe_cst {v : V} {d : D} (h : PE X e (tC v)) (rv : ∀ F H, Rv X.K F H v d) : PE X e (TD X.K fun r => some (.v d, r)) :=
  wk h fun σ H Q ⟨F, r, o, r', re, he, k⟩ => by
    cases he
    exact k v H F (.refl re) (.v (rv F H))
theorem pe_nm {i : Nat} (g : Ga) (h : PE X e (tVar i)) : PE X e (TD X.K (ev g (.nm i))) :=
  wk h fun σ H Q ⟨F, r, o, r', re, he, k⟩ => by
    unfold ev at he
    cases q : r.at i with
    | none =>
      rw [q] at he
      cases he
    | some p =>
      obtain ⟨F', v, e1, go, rv⟩ := re.frzAt q
      refine ⟨v, e1, ?_⟩
      cases p with
      | v d =>
        rw [q] at he
        cases he
        obtain ⟨u, e2, ro⟩ := re.val i _ q
        rw [e1] at e2
        cases e2
        exact k v H F (.refl re) (.v ro)
      | lst d =>
        rw [q] at he
        cases he
        exact k v H F' go (.v rv)
      | dct d =>
        rw [q] at he
        cases he
        exact k v H F' go (.v rv)
/-- an operand: a name is read later -/
theorem pe_ar {x : CE} {g : Ga} (h : PE X e (TD X.K (ev g x))) (hv : ∀ i, x = .nm i → PE X e (tVar i)) : PE X e (TDA X.K fun r => arB x (ev g x r) r) := by
  by_cases hx : ∃ i, x = .nm i
  · obtain ⟨i, rfl⟩ := hx
    refine wk (hv i rfl) fun σ H Q ⟨F, r, o, r', re, he, k⟩ => ?_
    simp only [arB] at he
    cases q : r.at i with
    | none =>
      rw [q] at he
      cases he
    | some p =>
      rw [q] at he
      cases he
      obtain ⟨v, e1, ro⟩ := re.val i p q
      exact ⟨v, e1, k v H F (.refl re) e1⟩
  · refine wk h fun σ H Q ⟨F, r, o, r', re, he, k⟩ => ?_
    have : arB x (ev g x r) r = (ev g x r).map fun p => (.v p.1, p.2) := by
      unfold arB
      split
      · exact absurd ⟨_, rfl⟩ hx
      · cases ev g x r with
        | none => rfl
        | some p => rfl
    replace he : (ev g x r).map (fun p => (Ar.v p.1, p.2)) = some (o, r') := this.symm.trans he
    cases q : ev g x r with
    | none =>
      rw [q] at he
      cases he
    | some p =>
      rw [q] at he
      cases he
      exact ⟨F, r, _, _, re, q, fun v H' F' go rr => k v H' F' go rr⟩
theorem pt_of {f : En → Option (O × En)} (h : PE X e (TD X.K f)) (he : ∀ whole, isTrue e X.env whole = (do let v ← whole; standAt e.pos; holding [v] (truthy v))) : PT X e (TB X.K f) :=
  wkT (pt_val h he) fun σ H Q ⟨F, r, b, r', re, hf, k⟩ => ⟨F, r, _, r', re, hf, fun v H' F' go rr => ⟨b, Rv.blE rr.1, k H' F' go⟩⟩
end
/-! ### operators -/
section
variable {X : Cx} {a b c : Expr} {pos : Pos} {x y z : CE} {g : Ga}
theorem bind2 {f : O → O → Option O} {σ : L2.St} {H : Hp} {Q : VK} {F : Addr → Prop} {r r' : En} {o : O} (re : RE X.K F H r σ)
    (he : (do
      let (u, r) ← arB x (ev g x r) r
      let (w, r) ← arB y (ev g y r) r
      let p ← rdA r u
      let q ← rdA r w
      let o ← f p q
      some (o, r)) = some (o, r'))
    (k : ∀ v H' F', GoE X.K F H r σ F' H' r' → RR X.K F' H' r' σ H o v → Q v H') : tOp (RR2 X.K f) (TDA X.K fun r => arB x (ev g x r) r) (TDA X.K fun r => arB y (ev g y r) r) σ H Q := by
  simp only [Option.bind_eq_bind, Option.bind_eq_some_iff, Prod.exists] at he
  obtain ⟨u, r1, h1, w, r2, h2, p, hp, q, hq, o', ho, hf⟩ := he
  cases hf
  refine ⟨F, r, u, r1, re, h1, fun v H1 F1 g1 ra => ⟨F1, r1, w, r', g1.re, h2, fun v2 H2 F2 g2 rb => ⟨F2, p, q, _, g2.re.dom, (ra.go g1.re g2).read g2.re hp, rb.read g2.re hq, ho, ?_⟩⟩⟩
  exact Out.fin re (g1.trans g2) k
theorem pe_bin' {op : BOp} (ha : PE X a (TDA X.K fun r => arB x (ev g x r) r)) (hb : PE X b (TDA X.K fun r => arB y (ev g y r) r)) : PE X (.BinOp a (opOf op) b pos) (TD X.K (ev g (.bin op x y))) :=
  wk (pe_op (op_bin op) ha hb) fun σ H Q ⟨F, r, o, r', re, he, k⟩ => bind2 re he k
theorem pe_neg' (ha : PE X a (TD X.K (ev g x))) : PE X (.UnaryOp .USub a pos) (TD X.K (ev g (.neg x))) :=
  wk (pe_un un_neg ha) fun σ H Q ⟨F, r, o, r', re, he, k⟩ => by
    simp only [ev, Option.bind_eq_bind, Option.bind_eq_some_iff, Prod.exists] at he
    obtain ⟨p, r1, h1, i, h2, h3⟩ := he
    cases h3
    refine ⟨F, r, p, r', re, h1, fun v H1 F1 g1 rr => ?_⟩
    unfold intO at h2
    split at h2
    · cases h2
      exact ⟨_, Rv.intE rr.1, k _ H1 F1 g1 (.v (.int _))⟩
    · cases h2
theorem pt_not' (ha : PT X a (TB X.K (ev g x))) : PT X (.UnaryOp .Not a pos) (TB X.K (ev g (.not x))) :=
  wkT (pt_not ha) fun σ H Q ⟨F, r, b, r', re, he, k⟩ => by
    simp only [ev, Option.bind_eq_bind, Option.bind_eq_some_iff, Prod.exists] at he
    obtain ⟨p, r1, h1, i, h2, h3⟩ := he
    cases h3
    unfold bolO at h2
    split at h2
    · cases h2
      exact ⟨F, r, _, r', re, h1, fun H1 F1 g1 => k H1 F1 g1⟩
    · cases h2
theorem pe_not' (ha : PE X a (TD X.K (ev g x))) : PE X (.UnaryOp .Not a pos) (TD X.K (ev g (.not x))) :=
  wk (pe_not ha) fun σ H Q ⟨F, r, o, r', re, he, k⟩ => by
    simp only [ev, Option.bind_eq_bind, Option.bind_eq_some_iff, Prod.exists] at he
    obtain ⟨p, r1, h1, i, h2, h3⟩ := he
    cases h3
    unfold bolO at h2
    split at h2
    · cases h2
      exact ⟨F, r, _, r', re, h1, fun v H1 F1 g1 rr => ⟨_, Rv.blE rr.1, k _ H1 F1 g1 (.v (.bl _))⟩⟩
    · cases h2
theorem cmp_ev {op : COp} {r : En} : ev g (.cmp op x y) r = (do
      let (u, r) ← arB x (ev g x r) r
      let (w, r) ← arB y (ev g y r) r
      let p ← rdA r u
      let q ← rdA r w
      let o ← cmpB op p q
      some (o, r)) := by
  simp only [ev, cmpB, Option.bind_eq_bind]
  cases h1 : arB x (ev g x r) r with
  | none => rfl
  | some p =>
    obtain ⟨u, r1⟩ := p
    simp only [Option.bind_some]
    cases h2 : arB y (ev g y r1) r1 with
    | none => rfl
    | some p =>
      obtain ⟨w, r2⟩ := p
      simp only [Option.bind_some]
      cases h3 : rdA r2 u with
      | none => rfl
      | some p =>
        simp only [Option.bind_some]
        cases h4 : rdA r2 w with
        | none => rfl
        | some q =>
          simp only [Option.bind_some]
          cases h5 : cmpO op p q with
          | none => rfl
          | some k => rfl
theorem pe_cmp' {op : CmpOp} (ho : Op2 X (compareOp op) (cmpB (opC op))) (ha : PE X a (TDA X.K fun r => arB x (ev g x r) r)) (hb : PE X b (TDA X.K fun r => arB y (ev g y r) r)) (hm : behindInMarks op b = false) :
    PE X (.Compare a [op] [b] pos) (TD X.K (ev g (.cmp (opC op) x y))) :=
  wk (pe_cmpR ho ha hb hm) fun σ H Q ⟨F, r, o, r', re, he, k⟩ => by
    rw [cmp_ev] at he
    exact bind2 re he k
theorem pt_cmp' {op : CmpOp} (ho : Op2 X (compareOp op) (cmpB (opC op))) (ha : PE X a (TDA X.K fun r => arB x (ev g x r) r)) (hb : PE X b (TDA X.K fun r => arB y (ev g y r) r)) (hm : behindInMarks op b = false) :
    PT X (.Compare a [op] [b] pos) (TB X.K (ev g (.cmp (opC op) x y))) :=
  wkT (pt_cmpR ho ha hb hm) fun σ H Q ⟨F, r, b, r', re, he, k⟩ => by
    rw [cmp_ev] at he
    exact bind2 re he fun v H' F' go rr => ⟨b, Rv.blE rr.1, k H' F' go⟩
/-- a chain -/
theorem chn_to {o1 o2 : COp} {σ : L2.St} {H : Hp} {Q : VK} {F : Addr → Prop} {r r' : En} {o : O} (re : RE X.K F H r σ) (he : ev g (.chn o1 o2 x y z) r = some (o, r'))
    (k : ∀ v H' F', GoE X.K F H r σ F' H' r' → RR X.K F' H' r' σ H o v → Q v H') : tChain (RR2 X.K (cmpB o1)) (RR2 X.K (cmpB o2)) (TD X.K (ev g x)) (TD X.K (ev g y)) (TD X.K (ev g z)) σ H Q := by
  simp only [ev, Option.bind_eq_bind, Option.bind_eq_some_iff, Prod.exists] at he
  obtain ⟨u, r1, h1, w, r2, h2, q, hq, he⟩ := he
  refine ⟨F, r, u, r1, re, h1, fun v1 H1 F1 g1 rr1 => ⟨F1, r1, w, r2, g1.re, h2, fun v2 H2 F2 g2 rr2 => ⟨F2, u, w, .v (.bool q), g2.re.dom, (rr1.go g1.re g2).1, rr2.1, by unfold cmpB; rw [hq]; rfl, fun v3 H3 sub ro n => ⟨q, Rv.blE ro, ?_⟩⟩⟩⟩
  have g3 : GoE X.K F2 H2 r2 σ F2 H3 r2 := .pure g2.re sub
  cases q with
  | false =>
    simp only [Option.some.injEq, Prod.mk.injEq] at he
    obtain ⟨rfl, rfl⟩ := he
    rw [if_neg Bool.false_ne_true]
    exact k _ H3 F2 ((g1.trans g2).trans g3) (.v (.bl _))
  | true =>
    simp only [Option.bind_eq_some_iff, Prod.exists] at he
    obtain ⟨p, r3, h3, q2, hq2, h4⟩ := he
    cases h4
    rw [if_pos rfl]
    refine ⟨F2, r2, p, r', g3.re, h3, fun v4 H4 F4 g4 rr4 => ⟨F4, w, p, .v (.bool q2), g4.re.dom, ((rr2.go g2.re g3).go g3.re g4).1, rr4.1, by unfold cmpB; rw [hq2]; rfl, ?_⟩⟩
    exact Out.fin re (((g1.trans g2).trans g3).trans g4) k
theorem pe_chn' {op op' : CmpOp} (ho : Op2 X (compareOp op) (cmpB (opC op))) (ho' : Op2 X (compareOp op') (cmpB (opC op'))) (ha : PE X a (TD X.K (ev g x))) (hb : PE X b (TD X.K (ev g y))) (hc : PE X c (TD X.K (ev g z)))
    (hm : lastMarks [op, op'] [b, c] = false) : PE X (.Compare a [op, op'] [b, c] pos) (TD X.K (ev g (.chn (opC op) (opC op') x y z))) :=
  wk (pe_chain ho ho' ha hb hc hm) fun σ H Q ⟨F, r, o, r', re, he, k⟩ => chn_to re he k
theorem pt_chn' {op op' : CmpOp} (ho : Op2 X (compareOp op) (cmpB (opC op))) (ho' : Op2 X (compareOp op') (cmpB (opC op'))) (ha : PE X a (TD X.K (ev g x))) (hb : PE X b (TD X.K (ev g y))) (hc : PE X c (TD X.K (ev g z)))
    (hm : lastMarks [op, op'] [b, c] = false) : PT X (.Compare a [op, op'] [b, c] pos) (TB X.K (ev g (.chn (opC op) (opC op') x y z))) :=
  wkT (pt_chain ho ho' ha hb hc hm) fun σ H Q ⟨F, r, b, r', re, he, k⟩ => chn_to re he fun v H' F' go rr => ⟨b, Rv.blE rr.1, k H' F' go⟩
/-! and, or, if -/
theorem and_to {σ : L2.St} {H : Hp} {Q : VK} {F : Addr → Prop} {r r' : En} {o : O} (re : RE X.K F H r σ) (he : ev g (.and x y) r = some (o, r'))
    (k : ∀ v H' F', GoE X.K F H r σ F' H' r' → RR X.K F' H' r' σ H o v → Q v H') : tAndV (TD X.K (ev g x)) (TD X.K (ev g y)) σ H Q := by
  simp only [ev, Option.bind_eq_bind, Option.bind_eq_some_iff, Prod.exists] at he
  obtain ⟨u, r1, h1, q, hq, he⟩ := he
  refine ⟨F, r, u, r1, re, h1, fun v1 H1 F1 g1 rr1 => ?_⟩
  unfold bolO at hq
  split at hq
  · cases hq
    refine ⟨q, Rv.blE rr1.1, ?_⟩
    cases q with
    | false =>
      simp only [Option.some.injEq, Prod.mk.injEq] at he
      obtain ⟨rfl, rfl⟩ := he
      rw [if_neg Bool.false_ne_true]
      exact k _ H1 F1 g1 (.v (.bl _))
    | true =>
      rw [if_pos rfl]
      exact ⟨F1, r1, o, r', g1.re, he, fun v2 H2 F2 g2 rr2 => k v2 H2 F2 (g1.trans g2) ⟨rr2.1, fun w a z => ⟨g1.ex.dom a (rr2.2 w a z).1, (rr2.2 w a z).2⟩⟩⟩
  · cases hq
theorem or_to {σ : L2.St} {H : Hp} {Q : VK} {F : Addr → Prop} {r r' : En} {o : O} (re : RE X.K F H r σ) (he : ev g (.or x y) r = some (o, r'))
    (k : ∀ v H' F', GoE X.K F H r σ F' H' r' → RR X.K F' H' r' σ H o v → Q v H') : tOrV (TD X.K (ev g x)) (TD X.K (ev g y)) σ H Q := by
  simp only [ev, Option.bind_eq_bind, Option.bind_eq_some_iff, Prod.exists] at he
  obtain ⟨u, r1, h1, q, hq, he⟩ := he
  refine ⟨F, r, u, r1, re, h1, fun v1 H1 F1 g1 rr1 => ?_⟩
  unfold bolO at hq
  split at hq
  · cases hq
    refine ⟨q, Rv.blE rr1.1, ?_⟩
    cases q with
    | true =>
      simp only [Option.some.injEq, Prod.mk.injEq] at he
      obtain ⟨rfl, rfl⟩ := he
      rw [if_pos rfl]
      exact k _ H1 F1 g1 (.v (.bl _))
    | false =>
      rw [if_neg Bool.false_ne_true]
      exact ⟨F1, r1, o, r', g1.re, he, fun v2 H2 F2 g2 rr2 => k v2 H2 F2 (g1.trans g2) ⟨rr2.1, fun w a z => ⟨g1.ex.dom a (rr2.2 w a z).1, (rr2.2 w a z).2⟩⟩⟩
  · cases hq
theorem andT_to {σ : L2.St} {H : Hp} {Q : Bool → Hp → Prop} {F : Addr → Prop} {r r' : En} {b : Bool} (re : RE X.K F H r σ) (he : ev g (.and x y) r = some (.v (.bool b), r'))
    (k : ∀ H' F', GoE X.K F H r σ F' H' r' → Q b H') : tAnd (TB X.K (ev g x)) (TB X.K (ev g y)) σ H Q := by
  simp only [ev, Option.bind_eq_bind, Option.bind_eq_some_iff, Prod.exists] at he
  obtain ⟨u, r1, h1, q, hq, he⟩ := he
  unfold bolO at hq
  split at hq
  · cases hq
    refine ⟨F, r, q, r1, re, h1, fun H1 F1 g1 => ?_⟩
    cases q with
    | false =>
      simp only [Option.some.injEq, Prod.mk.injEq, O.v.injEq, PyData.bool.injEq] at he
      obtain ⟨rfl, rfl⟩ := he
      rw [if_neg Bool.false_ne_true]
      exact k H1 F1 g1
    | true =>
      rw [if_pos rfl]
      exact ⟨F1, r1, b, r', g1.re, he, fun H2 F2 g2 => k H2 F2 (g1.trans g2)⟩
  · cases hq
theorem orT_to {σ : L2.St} {H : Hp} {Q : Bool → Hp → Prop} {F : Addr → Prop} {r r' : En} {b : Bool} (re : RE X.K F H r σ) (he : ev g (.or x y) r = some (.v (.bool b), r'))
    (k : ∀ H' F', GoE X.K F H r σ F' H' r' → Q b H') : tOr (TB X.K (ev g x)) (TB X.K (ev g y)) σ H Q := by
  simp only [ev, Option.bind_eq_bind, Option.bind_eq_some_iff, Prod.exists] at he
  obtain ⟨u, r1, h1, q, hq, he⟩ := he
  unfold bolO at hq
  split at hq
  · cases hq
    refine ⟨F, r, q, r1, re, h1, fun H1 F1 g1 => ?_⟩
    cases q with
    | true =>
      simp only [Option.some.injEq, Prod.mk.injEq, O.v.injEq, PyData.bool.injEq] at he
      obtain ⟨rfl, rfl⟩ := he
      rw [if_pos rfl]
      exact k H1 F1 g1
    | false =>
      rw [if_neg Bool.false_ne_true]
      exact ⟨F1, r1, b, r', g1.re, he, fun H2 F2 g2 => k H2 F2 (g1.trans g2)⟩
  · cases hq
theorem pe_ife' (hc : PT X c (TB X.K (ev g z))) (ha : PE X a (TD X.K (ev g x))) (hb : PE X b (TD X.K (ev g y))) : PE X (.IfExp c a b pos) (TD X.K (ev g (.ife z x y))) :=
  wk (pe_ifExp hc ha hb) fun σ H Q ⟨F, r, o, r', re, he, k⟩ => by
    simp only [ev, Option.bind_eq_bind, Option.bind_eq_some_iff, Prod.exists] at he
    obtain ⟨u, r1, h1, q, hq, he⟩ := he
    unfold bolO at hq
    split at hq
    · cases hq
      refine ⟨F, r, q, r1, re, h1, fun H1 F1 g1 => ?_⟩
      have fin : ∀ {w : CE}, ev g w r1 = some (o, r') → TD X.K (ev g w) σ H1 Q := fun he => ⟨F1, r1, o, r', g1.re, he, fun v2 H2 F2 g2 rr2 => k v2 H2 F2 (g1.trans g2) ⟨rr2.1, fun w a z => ⟨g1.ex.dom a (rr2.2 w a z).1, (rr2.2 w a z).2⟩⟩⟩
      cases q with
      | true =>
        exact fin he
      | false =>
        exact fin he
    · cases hq
end
end Mp
end

/-! ## MpExpr2 -/
section
set_option linter.all false
set_option maxRecDepth 100000
/-! Mp: displays, subscripts, calls of built-in things. -/
namespace Mp
open PySem PySem.Spec PyProof.Rows L2
theorem star_cons {e : Expr} {es : List Expr} {env : Env} (h : notStar e = true) : starEach (e :: es) env = (false, eval e env) :: starEach es env := by
  cases e <;> first | rfl | (cases h)
theorem star_any {env : Env} {pos : Pos} : ∀ {es : List Expr}, es.all notStar = true → (backTo pos (starEach es env)).any (·.1) = false
  | [], _ => rfl
  | e :: es, h => by
    obtain ⟨h1, h2⟩ := Bool.and_eq_true_iff.mp (show (notStar e && es.all notStar) = true from h)
    rw [star_cons h1]
    show (false || (backTo pos (starEach es env)).any (·.1)) = false
    rw [Bool.false_or]
    exact star_any h2
section
variable {X : Cx} {e a b c : Expr} {es : List Expr} {pos : Pos} {x y : CE} {xs : List CE} {g : Ga}
/-! ### rows of expressions -/
theorem pa_v0 : PA X [] (TV X.K (evs g [])) := wkA pa_nil fun σ H Q ⟨F, r, ds, r', re, he, k⟩ => by
  cases he
  exact k [] H F (.refl re) .nil
theorem pa_v1 (he : PE X e (TD X.K (ev g x))) (hs : PA X es (TV X.K (evs g xs))) (n : notStar e = true) : PA X (e :: es) (TV X.K (evs g (x :: xs))) :=
  wkA (pa_cons he hs (star_cons n)) fun σ H Q ⟨F, r, ds, r', re, h, k⟩ => by
    simp only [evs, Option.bind_eq_bind, Option.bind_eq_some_iff, Prod.exists] at h
    obtain ⟨o, r1, h1, ds1, r2, h2, h3⟩ := h
    cases h3
    refine ⟨F, r, o, r1, re, h1, fun v H1 F1 g1 rr => ?_⟩
    obtain ⟨F2, g2, rv⟩ := g1.frz re rr
    exact ⟨F2, r1, ds1, r', g2.re, h2, fun vs H3 F3 g3 rvs => k (v :: vs) H3 F3 (g2.trans g3) (.cons (rv.mono g2.re.mok g3.ex) rvs)⟩
theorem pa_a0 : PA X [] (TAa X.K (evas g [])) := wkA pa_nil fun σ H Q ⟨F, r, ds, r', re, he, k⟩ => by
  cases he
  exact k [] H F (.refl re) .nil
theorem pa_a1 (he : PE X e (TDA X.K fun r => arB x (ev g x r) r)) (hs : PA X es (TAa X.K (evas g xs))) (n : notStar e = true) : PA X (e :: es) (TAa X.K (evas g (x :: xs))) :=
  wkA (pa_cons he hs (star_cons n)) fun σ H Q ⟨F, r, ds, r', re, h, k⟩ => by
    simp only [evas, Option.bind_eq_bind, Option.bind_eq_some_iff, Prod.exists] at h
    obtain ⟨o, r1, h1, ds1, r2, h2, h3⟩ := h
    cases h3
    exact ⟨F, r, o, r1, re, h1, fun v H1 F1 g1 ra => ⟨F1, r1, ds1, r', g1.re, h2, fun vs H3 F3 g3 ras => k (v :: vs) H3 F3 (g1.trans g3) (.cons (ra.go g1.re g3) (ras.dom g1.ex.dom))⟩⟩
theorem evs_len : ∀ {xs : List CE} {r r' : En} {ds : List D}, evs g xs r = some (ds, r') → ds.length = xs.length
  | [], _, _, _, h => by
    cases h
    rfl
  | x :: xs, _, _, _, h => by
    simp only [evs, Option.bind_eq_bind, Option.bind_eq_some_iff, Prod.exists] at h
    obtain ⟨o, r1, h1, ds1, r2, h2, h3⟩ := h
    cases h3
    exact congrArg Nat.succ (evs_len h2)
/-! ### displays -/
theorem pe_tup' {x1} (h : PA X es (TV X.K (evs g xs))) (hl : xs.length ≤ 1000) : PE X (.Tuple es x1 pos) (TD X.K (ev g (.tup xs))) :=
  wk (pe_tup h) fun σ H Q ⟨F, r, o, r', re, he, k⟩ => by
    simp only [ev, Option.bind_eq_bind, Option.bind_eq_some_iff, Prod.exists] at he
    obtain ⟨ds, r1, h1, h2⟩ := he
    cases h2
    have hz := evs_len h1
    refine ⟨F, r, ds, r', re, h1, fun vs H1 F1 g1 rvs => ?_⟩
    have l := RvA.length rvs
    refine ⟨Nat.le_trans (by omega : vs.length ≤ 1000) (by rw [← SZ_eq]; decide), fun p hp => ?_⟩
    exact (Out.fin re g1 k).tnew rvs (Nat.le_trans (by omega : vs.length ≤ 1000) (by decide)) hp
theorem pe_lst' (h : PA X es (TV X.K (evs g xs))) (hl : xs.length ≤ 1000) : PE X (.List es pos) (TD X.K (ev g (.lst xs))) :=
  wk (pe_lst h) fun σ H Q ⟨F, r, o, r', re, he, k⟩ => by
    simp only [ev, Option.bind_eq_bind, Option.bind_eq_some_iff, Prod.exists] at he
    obtain ⟨ds, r1, h1, h2⟩ := he
    cases h2
    have hz := evs_len h1
    refine ⟨F, r, ds, r', re, h1, fun vs H1 F1 g1 rvs => ?_⟩
    have l := RvA.length rvs
    refine ⟨Nat.le_trans (by omega : vs.length ≤ 1000) (by rw [← SZ_eq]; decide), fun p hp => ?_⟩
    exact (Out.fin re g1 k).lnew g1.re.dom rvs (Nat.le_trans (by omega : vs.length ≤ 1000) (by decide)) hp
/-! ### subscripts -/
theorem pe_idx' (hr : IxR X (RR2 X.K idxO)) (ha : PE X a (TDA X.K fun r => arB x (ev g x r) r)) (hb : PE X b (TD X.K (ev g y))) (hs : PlainIx b) : PE X (.Subscript a b pos) (TD X.K (ev g (.idx x y))) :=
  wk (pe_ix hr ha hb hs) fun σ H Q ⟨F, r, o, r', re, he, k⟩ => by
    simp only [ev, Option.bind_eq_bind, Option.bind_eq_some_iff, Prod.exists] at he
    obtain ⟨u, r1, h1, w, r2, h2, p, hp, q, hq, h3⟩ := he
    cases h3
    refine ⟨F, r, u, r1, re, h1, fun v1 H1 F1 g1 ra => ⟨F1, r1, w, r', g1.re, h2, fun v2 H2 F2 g2 rr => ?_⟩⟩
    obtain ⟨F3, g3, rv⟩ := g2.frz g1.re rr
    exact ⟨F3, p, .v w.d, _, g3.re.dom, (ra.go g1.re g3).read g3.re hp, rv, hq, Out.fin re (g1.trans g3) k⟩
def TO' (K : PySem.W.Frag) (f : En → Option (Option Int × En)) : L2.TO := fun σ H Q => ∃ F r o r', RE K F H r σ ∧ f r = some (o, r') ∧ ∀ H' F', GoE K F H r σ F' H' r' → Q o H'
theorem po_0 : PO X none (TO' X.K (evo g none)) := ⟨fun pins s σ H Q I ⟨F, r, o, r', re, he, k⟩ => by
  cases he
  exact po_none.run pins s σ H Q I (k H F (.refl re))⟩
theorem po_1 (h : PE X e (TD X.K (ev g x))) : PO X (some e) (TO' X.K (evo g (some x))) := ⟨fun pins s σ H Q I ⟨F, r, o, r', re, he, k⟩ => by
  simp only [evo, Option.bind_eq_bind, Option.bind_eq_some_iff, Prod.exists] at he
  obtain ⟨w, r1, h1, i, h2, h3⟩ := he
  cases h3
  refine (po_some h).run pins s σ H Q I ⟨F, r, w, r', re, h1, fun v H1 F1 g1 rr => ?_⟩
  unfold intO at h2
  split at h2
  · cases h2
    cases Rv.intE rr.1
    exact ⟨_, rfl, k H1 F1 g1⟩
  · cases h2⟩
theorem pe_slc' {lo hi : Option Expr} {l h : Option CE} {p2 : Pos} (hr : SlR X (RRs X.K)) (ha : PE X a (TDA X.K fun r => arB x (ev g x r) r)) (hl : PO X lo (TO' X.K (evo g l))) (hh : PO X hi (TO' X.K (evo g h))) :
    PE X (.Subscript a (.Slice lo hi none p2) pos) (TD X.K (ev g (.slc x l h))) :=
  wk (pe_slice hr ha hl hh) fun σ H Q ⟨F, r, o, r', re, he, k⟩ => by
    simp only [ev, Option.bind_eq_bind, Option.bind_eq_some_iff, Prod.exists] at he
    obtain ⟨u, r1, h1, i, r2, h2, j, r3, h3, p, hp, q, hq, h4⟩ := he
    cases h4
    refine ⟨F, r, u, r1, re, h1, fun v1 H1 F1 g1 ra => ⟨F1, r1, i, r2, g1.re, h2, fun H2 F2 g2 => ⟨F2, r2, j, r', g2.re, h3, fun H3 F3 g3 => ?_⟩⟩⟩
    exact ⟨F3, p, _, g3.re.dom, ((ra.go g1.re g2).go g2.re g3).read g3.re hp, hq, Out.fin re ((g1.trans g2).trans g3) k⟩
/-! ### calls of built-in things -/
/-- a built-in function by its name: a function, or a type -/
def IsB (v : Value) (x : Str) : Prop := bootBuiltins x = some v ∧ ((∃ id, v = .builtin id) ∨ ∃ T, v = .type T)
theorem pe_call1 {f : List O → Option O} {fv : Value} {nm : Str} {p : Pos} (hc : CallR X fv (RRn X.K f)) (hv : IsB fv nm) (hg : Gl X nm) (hm : X.mg nm = none) (hn : nm ≠ "__name__") (hd : (nm == ("__debug__" : Str)) = false)
    (ha : PA X (e :: es) (TAa X.K (evas g xs))) (hs : (e :: es).all notStar = true) (h : ∀ r, ev g x r = (do
      let (as, r) ← evas g xs r
      let os ← rdAs r as
      let q ← f os
      some (q, r))) : PE X (.Call (.Name nm p) (e :: es) [] pos) (TD X.K (ev g x)) := by
  obtain ⟨hs1, hs2⟩ := Bool.and_eq_true_iff.mp (show (notStar e && es.all notStar) = true from hs)
  have main : ∀ σ H Q, TD X.K (ev g x) σ H Q → tCB (RRn X.K f) (TAa X.K (evas g xs)) σ H Q := fun σ H Q ⟨F, r, o, r', re, he, k⟩ => by
    rw [h] at he
    simp only [Option.bind_eq_bind, Option.bind_eq_some_iff, Prod.exists] at he
    obtain ⟨as, r1, h1, os, h2, q, h3, h4⟩ := he
    cases h4
    exact ⟨F, r, as, r', re, h1, fun vs H1 F1 g1 ras => ⟨F1, os, _, g1.re.dom, ras.read g1.re h2, h3, Out.fin re g1 k⟩⟩
  obtain ⟨hb, ⟨id, rfl⟩ | ⟨T, rfl⟩⟩ := hv
  · exact wk (pe_callB hc hg hm hb ha hn hd (star_cons hs1) (star_any hs2)) main
  · exact wk (pe_callTy hc hg hm hb ha hn hd (star_cons hs1) (star_any hs2)) main
end
end Mp
end

/-! ## MpOps2 -/
section
set_option linter.all false
set_option maxRecDepth 100000
/-! Mp: comparisons, subscripts, slices, isinstance: their rules. -/
namespace Mp
open PySem PySem.Spec PyProof.Rows L2
section
variable {K : PySem.W.Frag} {F : Addr → Prop} {H : Hp}
theorem RO.pureD {o : O} {v : V} (h : RO K F H o v) (n : noDict o.d = true) : Dp K H v o.d ∧ PyData.canLay0 o.d = true := by
  cases o with
  | v d => exact ⟨Rv.dp n h, Rv.lay n h⟩
  | lst ds =>
    obtain ⟨a, xs, rfl, _, q, l, rs⟩ := h
    exact ⟨.lst (.of q) (RvA.dp n rs), RvA.lay n rs⟩
  | dct ds => cases n
end
theorem shaped_of {d : D} (h : PyData.canLay0 d = true) (o : okE d = true) : SeqAt.shaped d = true := Bool.and_eq_true_iff.mpr ⟨h, o⟩
section
variable {X : Cx}
theorem eqO_of {X : Cx} {F : Addr → Prop} {H : Hp} {o p : O} {x y : V} {b : Bool} (ro : RO X.K F H o x) (rp : RO X.K F H p y) (e : eqO o p = some b) :
    ∃ d k, Dp X.K H x d ∧ Dp X.K H y k ∧ SeqAt.shaped d = true ∧ SeqAt.shaped k = true ∧ b = PyData.eqv d k := by
  unfold eqO eqP at e
  split at e
  · rename_i h
    simp only [Bool.and_eq_true] at h
    obtain ⟨⟨h1, h2⟩, h3, h4⟩ := h
    cases e
    exact ⟨_, _, (ro.pureD h2).1, (rp.pureD h4).1, shaped_of (ro.pureD h2).2 h1, shaped_of (rp.pureD h4).2 h3, rfl⟩
  · cases e
theorem op_eq' (hu : X.A.units + 70 < cLine) : Op2 X (compareOp .Eq) (cmpB .eq) := .of fun x y H Q F o p q d ro rp e k => by
  simp only [cmpB, cmpO, Option.map_eq_some_iff] at e
  obtain ⟨b, e, rfl⟩ := e
  obtain ⟨d1, d2, h1, h2, h3, h4, rfl⟩ := eqO_of ro rp e
  exact ⟨_, op_eqD (by omega), d1, d2, h1, h2, h3, h4, k.val (.bl _)⟩
theorem op_ne' (hu : X.A.units + 70 < cLine) : Op2 X (compareOp .NotEq) (cmpB .ne) := .of fun x y H Q F o p q d ro rp e k => by
  simp only [cmpB, cmpO, Option.map_eq_some_iff] at e
  obtain ⟨b, e, rfl⟩ := e
  cases e2 : eqO o p with
  | none =>
    rw [e2] at e
    cases e
  | some c =>
    rw [e2] at e
    cases e
    obtain ⟨d1, d2, h1, h2, h3, h4, rfl⟩ := eqO_of ro rp e2
    exact ⟨_, op_neD (by omega), d1, d2, h1, h2, h3, h4, k.val (.bl _)⟩
/-- < and > of data -/
theorem lt_run {a b : D} {x y : V} {F : Addr → Prop} {H : Hp} {c : Bool} (hu : X.A.units + 70 < cLine) (ra : Rv X.K F H x a) (rb : Rv X.K F H y b) (e : ltO a b = some c)
    (pins : List (Addr × Obj)) (s : Shared) (σ : L2.St) (v u : Value) (Q : VK) (I : Inv X pins σ H s) (rx : RelV x v) (ry : RelV y u) (k : Q (.bl c) H) :
    wpAny (model X.prog X.w) X.A (compareOp .Lt v u) (EP X pins σ Q) X.xe s := by
  unfold ltO at e
  split at e
  · cases e
    cases Rv.intE ra
    cases Rv.intE rb
    exact op_lt pins s σ H _ _ v u Q I rx ry ⟨_, _, rfl, rfl, k⟩
  · cases e
    cases (Rv.strE ra).1
    cases (Rv.strE rb).1
    exact op_lt_str pins s σ H _ _ v u Q I rx ry ⟨_, _, rfl, rfl, k⟩
  · rename_i xs ys
    split at e
    · rename_i hc
      cases e
      simp only [Bool.and_eq_true] at hc
      obtain ⟨hal, ⟨ox, oy⟩, nx, ny⟩ := hc
      obtain ⟨as, r1⟩ := Dp.reads I (.tuple xs) x v (Rv.dp (d := .tuple xs) nx ra) rx
      obtain ⟨bs, r2⟩ := Dp.reads I (.tuple ys) y u (Rv.dp (d := .tuple ys) ny rb) ry
      have hd : (PyData.tuple xs).depth ≤ 64 := of_decide_eq_true ox
      refine PySem.W.rcLt_alike _ _ X.A s v u as bs r1 r2 hal (fun z => nomatch z) ?_ X.prog X.w X.xe _ ⟨.bl _, H, I, rfl, k⟩
      have := Nat.min_le_left (PyData.tuple xs).depth (PyData.tuple ys).depth
      omega
    · cases e
  · cases e
theorem gt_run {a b : D} {x y : V} {F : Addr → Prop} {H : Hp} {c : Bool} (ra : Rv X.K F H x a) (rb : Rv X.K F H y b) (e : gtO a b = some c)
    (pins : List (Addr × Obj)) (s : Shared) (σ : L2.St) (v u : Value) (Q : VK) (I : Inv X pins σ H s) (rx : RelV x v) (ry : RelV y u) (k : Q (.bl c) H) :
    wpAny (model X.prog X.w) X.A (compareOp .Gt v u) (EP X pins σ Q) X.xe s := by
  unfold gtO at e
  split at e
  · cases e
    cases Rv.intE ra
    cases Rv.intE rb
    exact op_gt pins s σ H _ _ v u Q I rx ry ⟨_, _, rfl, rfl, k⟩
  · cases e
    cases (Rv.strE ra).1
    cases (Rv.strE rb).1
    exact op_gt_str pins s σ H _ _ v u Q I rx ry ⟨_, _, rfl, rfl, k⟩
  · cases e
theorem lt_pure {a b : O} {c : Bool} (e : ltO a.d b.d = some c) : ∃ d k, a = .v d ∧ b = .v k := by
  cases a <;> cases b <;> first | exact ⟨_, _, rfl, rfl⟩ | (simp [O.d, ltO] at e)
theorem gt_pure {a b : O} {c : Bool} (e : gtO a.d b.d = some c) : ∃ d k, a = .v d ∧ b = .v k := by
  cases a <;> cases b <;> first | exact ⟨_, _, rfl, rfl⟩ | (simp [O.d, gtO] at e)
theorem op_lt' (hu : X.A.units + 70 < cLine) : Op2 X (compareOp .Lt) (cmpB .lt) := by
  intro pins s σ H x y v u Q I rx ry ⟨F, o, p, q, d, ro, rp, e, k⟩
  simp only [cmpB, cmpO, Option.map_eq_some_iff] at e
  obtain ⟨b, e, rfl⟩ := e
  obtain ⟨d1, d2, rfl, rfl⟩ := lt_pure e
  exact lt_run hu ro rp e pins s σ v u Q I rx ry (k.val (.bl _))
theorem op_gt' : Op2 X (compareOp .Gt) (cmpB .gt) := by
  intro pins s σ H x y v u Q I rx ry ⟨F, o, p, q, d, ro, rp, e, k⟩
  simp only [cmpB, cmpO, Option.map_eq_some_iff] at e
  obtain ⟨b, e, rfl⟩ := e
  obtain ⟨d1, d2, rfl, rfl⟩ := gt_pure e
  exact gt_run ro rp e pins s σ v u Q I rx ry (k.val (.bl _))
theorem op_le' : Op2 X (compareOp .LtE) (cmpB .le) := .of fun x y H Q F o p q d ro rp e k => by
  simp only [cmpB, cmpO, Option.map_eq_some_iff] at e
  obtain ⟨b, e, rfl⟩ := e
  unfold leO at e
  split at e
  · cases e
    cases Rv.intE ro
    cases Rv.intE rp
    exact ⟨_, op_le, _, _, rfl, rfl, k.val (.bl _)⟩
  · cases e
theorem op_ge' : Op2 X (compareOp .GtE) (cmpB .ge) := .of fun x y H Q F o p q d ro rp e k => by
  simp only [cmpB, cmpO, Option.map_eq_some_iff] at e
  obtain ⟨b, e, rfl⟩ := e
  unfold geO at e
  split at e
  · cases e
    cases Rv.intE ro
    cases Rv.intE rp
    exact ⟨_, op_ge, _, _, rfl, rfl, k.val (.bl _)⟩
  · cases e
theorem non_iff {K : PySem.W.Frag} {F : Addr → Prop} {H : Hp} {d : D} {x : V} (r : Rv K F H x d) : decide (x = .non) = isNn d := by
  cases r <;> simp [isNn]
theorem is_of {F : Addr → Prop} {H : Hp} {o p : O} {x y : V} {b : Bool} (ro : RO X.K F H o x) (rp : RO X.K F H p y) (e : isOO o p = some b) : (y = .non ∧ b = decide (x = .non)) ∨ ∃ i j, x = .bl i ∧ y = .bl j ∧ b = decide (i = j) := by
  unfold isOO at e
  split at e
  · rename_i d k
    unfold isO at e
    split at e
    · cases e
      cases Rv.nonE rp
      exact .inl ⟨rfl, (non_iff ro).symm⟩
    · cases e
      cases Rv.blE ro
      cases Rv.blE rp
      exact .inr ⟨_, _, rfl, rfl, rfl⟩
    · cases e
  · cases e
    cases Rv.nonE rp
    refine .inl ⟨rfl, ?_⟩
    rename_i hn
    cases o with
    | v d => exact absurd rfl (hn d)
    | lst ds =>
      obtain ⟨a, xs, rfl, _⟩ := ro
      rfl
    | dct ds =>
      obtain ⟨a, rfl, _⟩ := ro
      rfl
  · cases e
theorem op_is' : Op2 X (compareOp .Is) (cmpB .is) := .of fun x y H Q F o p q d ro rp e k => by
  simp only [cmpB, cmpO, Option.map_eq_some_iff] at e
  obtain ⟨b, e, rfl⟩ := e
  rcases is_of ro rp e with ⟨rfl, rfl⟩ | ⟨i, j, rfl, rfl, rfl⟩
  · exact ⟨_, op_isN, rfl, k.val (.bl _)⟩
  · exact ⟨_, op_is_bl, i, j, rfl, rfl, k.val (.bl _)⟩
theorem op_isn' : Op2 X (compareOp .IsNot) (cmpB .isn) := .of fun x y H Q F o p q d ro rp e k => by
  simp only [cmpB, cmpO, Option.map_eq_some_iff] at e
  obtain ⟨b, e, rfl⟩ := e
  cases e2 : isOO o p with
  | none =>
    rw [e2] at e
    cases e
  | some c =>
    rw [e2] at e
    cases e
    rcases is_of ro rp e2 with ⟨rfl, rfl⟩ | ⟨i, j, rfl, rfl, rfl⟩
    · exact ⟨_, op_notN, rfl, k.val (.bl _)⟩
    · exact ⟨_, op_isnot_bl, i, j, rfl, rfl, k.val (.bl _)⟩
/-- what a list or tuple reads as -/
theorem RO.reads {F : Addr → Prop} {H : Hp} {o : O} {v : V} {xs : List D} {u : Value} {pins : List (Addr × Obj)} {s : Shared} {σ : L2.St} (I : Inv X pins σ H s) (h : RO X.K F H o v) (e : seqD o = some xs) (n : noDictAll xs = true) (r : RelV v u) :
    (∃ as, Reads s.heap u (.list xs) as) ∨ ∃ as, Reads s.heap u (.tuple xs) as := by
  obtain ⟨a, vs, rfl, q, l, rs⟩ := h.seq e
  rcases q with q | q
  · exact .inl (Dp.reads I (.list xs) _ u (.lst q (RvA.dp n rs)) r)
  · exact .inr (Dp.reads I (.tuple xs) _ u (.tup q (RvA.dp n rs)) r)
theorem in_run {F : Addr → Prop} {H : Hp} {o p : O} {x y : V} {b : Bool} (hu : X.A.units + 70 < cLine) (ro : RO X.K F H o x) (rp : RO X.K F H p y) (e : inO o p = some b)
    (pins : List (Addr × Obj)) (s : Shared) (σ : L2.St) (v u : Value) (I : Inv X pins σ H s) (rx : RelV x v) (ry : RelV y u) :
    (∀ Q : VK, Q (.bl b) H → wpAny (model X.prog X.w) X.A (compareOp .In v u) (EP X pins σ Q) X.xe s) ∧ ∀ Q : VK, Q (.bl (!b)) H → wpAny (model X.prog X.w) X.A (compareOp .NotIn v u) (EP X pins σ Q) X.xe s := by
  unfold inO at e
  split at e
  · cases e
    cases (Rv.strE ro).1
    cases (Rv.strE rp).1
    exact ⟨fun Q k => op_in_str pins s σ H _ _ v u Q I rx ry ⟨_, _, rfl, rfl, k⟩, fun Q k => op_notin_str pins s σ H _ _ v u Q I rx ry ⟨_, _, rfl, rfl, k⟩⟩
  · rename_i o' k _
    split at e
    · rename_i kvs hk
      split at e
      · rename_i ok
        cases e
        obtain ⟨a, rfl, g⟩ := da_of rp hk ok ro
        cases (show u = Value.ref a from ry)
        exact ⟨fun Q q => da_in (by omega) I g rx fun s' I' => ⟨.bl _, H, I', rfl, q⟩, fun Q q => da_notIn (by omega) I g rx fun s' I' => ⟨.bl _, H, I', rfl, q⟩⟩
      · cases e
    · split at e
      · rename_i xs hs
        unfold memD at e
        split at e
        · rename_i hc
          cases e
          simp only [Bool.and_eq_true] at hc
          obtain ⟨⟨ok, nk⟩, nx⟩ := hc
          obtain ⟨as, r1⟩ := Dp.reads I k x v (Rv.dp nk ro) rx
          have ck := Rv.lay nk ro
          have hd : k.depth ≤ 64 := of_decide_eq_true ok
          have room : X.A.units + 1 + min (PyData.depthAll xs) k.depth < cLine := by
            have := Nat.min_le_right (PyData.depthAll xs) k.depth
            omega
          obtain ⟨a, vs, rfl, _, _, rs⟩ := rp.seq hs
          have cx := RvA.lay nx rs
          rcases RO.reads I rp hs nx ry with ⟨bs, r2⟩ | ⟨bs, r2⟩
          · exact ⟨fun Q q => SeqAt.in_list_reads r2 r1 cx ck room ⟨.bl _, H, I, rfl, q⟩, fun Q q => SeqAt.notIn_list_reads r2 r1 cx ck room ⟨.bl _, H, I, rfl, q⟩⟩
          · exact ⟨fun Q q => SeqAt.in_tuple_reads r2 r1 cx ck room ⟨.bl _, H, I, rfl, q⟩, fun Q q => SeqAt.notIn_tuple_reads r2 r1 cx ck room ⟨.bl _, H, I, rfl, q⟩⟩
        · cases e
      · cases e
  · cases e
theorem op_in' (hu : X.A.units + 70 < cLine) : Op2 X (compareOp .In) (cmpB .isin) := by
  intro pins s σ H x y v u Q I rx ry ⟨F, o, p, q, d, ro, rp, e, k⟩
  simp only [cmpB, cmpO, Option.map_eq_some_iff] at e
  obtain ⟨b, e, rfl⟩ := e
  exact (in_run hu ro rp e pins s σ v u I rx ry).1 Q (k.val (.bl _))
theorem op_nin' (hu : X.A.units + 70 < cLine) : Op2 X (compareOp .NotIn) (cmpB .nin) := by
  intro pins s σ H x y v u Q I rx ry ⟨F, o, p, q, d, ro, rp, e, k⟩
  simp only [cmpB, cmpO, Option.map_eq_some_iff] at e
  obtain ⟨b, e, rfl⟩ := e
  cases e2 : inO o p with
  | none =>
    rw [e2] at e
    cases e
  | some c =>
    rw [e2] at e
    cases e
    exact (in_run hu ro rp e2 pins s σ v u I rx ry).2 Q (k.val (.bl _))
theorem op_cmp (hu : X.A.units + 70 < cLine) : ∀ op : CmpOp, Op2 X (compareOp op) (cmpB (opC op))
  | .Eq => op_eq' hu
  | .NotEq => op_ne' hu
  | .Lt => op_lt' hu
  | .LtE => op_le'
  | .Gt => op_gt'
  | .GtE => op_ge'
  | .Is => op_is'
  | .IsNot => op_isn'
  | .In => op_in' hu
  | .NotIn => op_nin' hu
/-! ### subscripts -/
theorem ixI_eq (n : Nat) (i : Int) : ixI n i = ixN n i := rfl
theorem ixN_len {n m : Nat} (h : n = m) (i : Int) : ixN n i = ixN m i := by rw [h]
theorem RvA.atI {K : PySem.W.Frag} {F : Addr → Prop} {H : Hp} {vs : List V} {ds : List D} {i : Int} {j : Nat} {d : D} (r : RvA K F H vs ds) (h1 : ixI ds.length i = some j) (h2 : ds[j]? = some d) : ∃ v, L2.atI vs i = some v ∧ Rv K F H v d := by
  obtain ⟨v, e, rv⟩ := r.get h2
  refine ⟨v, ?_, rv⟩
  unfold L2.atI
  rw [RvA.length r, ← ixI_eq, h1]
  exact e
theorem strOk_one {z : Str} {j : Nat} {c : Nat} (h : PyData.strOk z = true) (e : z.cps.toList[j]? = some c) : PyData.strOk ⟨#[c]⟩ = true := by
  have h' : z.cps.all (· < 0x110000) = true := h
  rw [← Array.all_toList, List.all_eq_true] at h'
  have := h' c (List.mem_of_getElem? e)
  show (#[c] : Array Nat).all (· < 0x110000) = true
  simpa using this
theorem ix_any (hu : X.A.units + 70 < cLine) : IxR X (RR2 X.K idxO) := by
  intro value slice pins s σ H x y v u Q I rx ry ⟨F, o, p, q, dm, ro, rp, e, k⟩ hs
  unfold idxO at e
  split at e
  · rename_i z i
    simp only [Option.bind_eq_bind, Option.bind_eq_some_iff, Option.some.injEq] at e
    obtain ⟨j, h1, c, h2, rfl⟩ := e
    obtain ⟨rfl, so, sl⟩ := Rv.strE ro
    cases Rv.intE rp
    refine ix_str value slice pins s σ H _ _ v u Q I rx ry ⟨z, i, c, rfl, rfl, by rw [← SZ_eq]; exact sl, ?_, k.val (.str _ (strOk_one so h2) (by show 1 ≤ SZ; decide))⟩ hs
    unfold L2.atI
    rw [show z.cps.toList.length = z.length from by rw [Array.length_toList]; rfl, ← ixI_eq, h1]
    exact h2
  · rename_i a b _
    split at e
    · rename_i kvs hk
      split at e
      · rename_i ok
        simp only [Option.map_eq_some_iff] at e
        obtain ⟨d, e, rfl⟩ := e
        obtain ⟨a, rfl, g⟩ := da_of ro hk ok rp
        cases (show v = Value.ref a from rx)
        refine tail_any (da_typeIs I g) PySem.F.slot_dict_getitem.lookup (da_getItem (by omega) I g e ry fun w w' s' I' rv rw' => ?_) hs
        exact ⟨w, H, I', rw', k.val rv⟩
      · cases e
    · split at e
      · rename_i xs i hs1 _
        simp only [Option.bind_eq_bind, Option.bind_eq_some_iff, Option.some.injEq] at e
        obtain ⟨j, h1, d, h2, rfl⟩ := e
        cases Rv.intE rp
        obtain ⟨a, vs, rfl, hq, l, rs⟩ := ro.seq hs1
        obtain ⟨w, e2, rv⟩ := rs.atI h1 h2
        rcases hq with hq | hq
        · exact ix_list value slice pins s σ H _ _ v u Q I rx ry ⟨a, vs, i, w, rfl, rfl, hq, e2, k.val rv⟩ hs
        · exact ix_tup value slice pins s σ H _ _ v u Q I rx ry ⟨a, vs, i, w, rfl, rfl, hq, e2, k.val rv⟩ hs
      · cases e
  · cases e
/-! ### slices -/
theorem RvA.cut {K : PySem.W.Frag} {F : Addr → Prop} {H : Hp} {vs : List V} {ds : List D} (r : RvA K F H vs ds) (lo hi : Option Int) : RvA K F H (cutV vs lo hi) (cutL ds lo hi) := by
  unfold cutV cutL
  rw [RvA.length r]
  exact (r.drop _).take _
theorem sIx_eq (n d : Nat) (o : Option Int) : Mp.sIx n d o = HT.sIx n d o := by cases o <;> rfl
theorem all_sub {P : Nat → Bool} {xs : List Nat} (h : xs.all P = true) (n m : Nat) : ((xs.drop n).take m).all P = true := by
  rw [List.all_eq_true] at h ⊢
  exact fun x hx => h x (List.mem_of_mem_drop (List.mem_of_mem_take hx))
theorem strOk_cut {z : Str} (h : PyData.strOk z = true) (n m : Nat) : PyData.strOk ⟨((z.cps.toList.drop n).take m).toArray⟩ = true := by
  have h' : z.cps.all (· < 0x110000) = true := h
  rw [← Array.all_toList] at h'
  have := all_sub h' n m
  show (((z.cps.toList.drop n).take m).toArray).all (· < 0x110000) = true
  rw [← Array.all_toList]
  exact this
theorem len_cut {z : Str} {k : Nat} (h : z.length ≤ k) (n m : Nat) : Str.length ⟨((z.cps.toList.drop n).take m).toArray⟩ ≤ k := by
  show ((z.cps.toList.drop n).take m).toArray.size ≤ k
  have : z.cps.toList.length = z.length := by rw [Array.length_toList]; rfl
  rw [List.size_toArray, List.length_take, List.length_drop]
  omega
theorem RvA.all {K : PySem.W.Frag} {F : Addr → Prop} {H : Hp} {vs : List V} {ds : List D} (r : RvA K F H vs ds) {lo hi : Option Int} (h : HT.sIx vs.length 0 lo = 0 ∧ HT.sIx vs.length vs.length hi = vs.length) : cutL ds lo hi = ds := by
  unfold cutL
  rw [sIx_eq, sIx_eq, ← RvA.length r, h.1, h.2, List.drop_zero, Nat.sub_zero, RvA.length r, List.take_length]
theorem sl_any : SlR X (RRs X.K) := by
  intro pins s σ H x v vl vu lo hi sl Q I rx hs pl pu ⟨F, o, q, dm, ro, e, k⟩
  unfold slcO at e
  split at e
  · rename_i z
    cases e
    obtain ⟨rfl, so, sz⟩ := Rv.strE ro
    refine sl_str pins s σ H _ v vl vu lo hi sl Q I rx hs pl pu ⟨z, rfl, by rw [← SZ_eq]; exact sz, ?_⟩
    exact k.val (.str _ (strOk_cut so _ _) (len_cut sz _ _))
  · rename_i ds
    cases e
    obtain ⟨a, vs, rfl, h1, h2, rs⟩ := Rv.tupE ro
    refine sl_tupA pins s σ H _ v vl vu lo hi sl Q I rx hs pl pu ⟨a, vs, rfl, h1, fun w => ?_, fun w p hp => ?_⟩
    · exact k.val (by rw [RvA.all rs w]; exact ro)
    · exact k.tnew (rs.cut lo hi) (Nat.le_trans (cutV_length _ _ _) h2) hp
  · rename_i o _ _
    simp only [Option.map_eq_some_iff] at e
    obtain ⟨ds, e, rfl⟩ := e
    obtain ⟨a, vs, rfl, h1, h2, rs⟩ := ro.lst e
    exact sl_list pins s σ H _ v vl vu lo hi sl Q I rx hs pl pu ⟨a, vs, rfl, h1, fun p hp => k.lnew dm (rs.cut lo hi) (Nat.le_trans (cutV_length _ _ _) h2) hp⟩
/-! ### isinstance -/
def tyNm : Ty → String
  | .int => "int" | .bool => "bool" | .str => "str" | .tuple => "tuple" | .list => "list" | .dict => "dict"
def dNm : D → String
  | .none => "NoneType" | .bool _ => "bool" | .int _ => "int" | .str _ => "str" | .list _ => "list" | .tuple _ => "tuple" | .dict _ => "dict"
theorem kitB_ty (t : Ty) (d : D) : kitB (dNm d) (tyNm t) = some (isiD t d) := by
  cases t <;> cases d <;> (simp only [dNm, tyNm, isiD] <;> decide +kernel)
theorem FzL.ty {K : PySem.W.Frag} {F : Addr → Prop} {H : Hp} {a : Addr} {xs : List V} (h : FzL K F H a xs) : TyX K H (.ref a) (.type "list") := by
  rcases h with ⟨_, e⟩ | ⟨o, e⟩ | ⟨o, its, n, e, c, _⟩
  · exact .base (.lst e)
  · exact .base (.frz e)
  · exact .kList e c
theorem SqT.ty {K : PySem.W.Frag} {H : Hp} {a : Addr} {xs : List V} (h : SqT K H a xs) : TyX K H (.ref a) (.type "tuple") := by
  rcases h with (e | ⟨o, e⟩) | ⟨o, its, n, e, c, _⟩
  · exact .base (.tup e)
  · exact .fTuple e
  · exact .kTuple e c
theorem RO.ty {F : Addr → Prop} {H : Hp} {o : O} {v : V} (h : RO X.K F H o v) : TyX X.K H v (.type (dNm o.d)) := by
  cases o with
  | v d =>
    cases (show Rv X.K F H v d from h) with
    | non => exact .base .non
    | bl b => exact .base (.bl b)
    | int i => exact .base (.int i)
    | str s => exact .base (.str s)
    | lst h1 => exact h1.ty
    | tup h1 => exact SqT.ty h1
    | dK _ h1 => exact .base (.dK h1)
    | dT _ h1 => exact .base (.dT h1)
  | lst ds =>
    obtain ⟨a, xs, rfl, _, q, _⟩ := h
    exact .base (.lst q)
  | dct ds =>
    obtain ⟨a, rfl, _, ⟨kvs, q, _⟩ | ⟨kvs, q, _⟩⟩ := h
    · exact .base (.dK q)
    · exact .base (.dT q)
end
end Mp
end

/-! ## MpStmt -/
section
set_option linter.all false
set_option maxRecDepth 100000
/-! Mp: stores, targets, statements. -/
namespace Mp
open PySem PySem.Spec PyProof.Rows L2
section
variable {K : PySem.W.Frag} {F F' F1 : Addr → Prop} {H H' H1 : Hp} {r r' r1 : En} {σ σ' σ1 : L2.St} {W : Nat → Prop}
theorem sig_set (σ : L2.St) (i j : Nat) (x : Option V) : (σ.set i x)[j]? = if i = j ∧ i < σ.length then some x else σ[j]? := by
  by_cases h : i = j
  · subst h
    by_cases l : i < σ.length
    · rw [if_pos ⟨rfl, l⟩, List.getElem?_set_self l]
    · rw [if_neg (fun z => l z.2), List.set_eq_of_length_le (Nat.le_of_not_lt l)]
  · rw [if_neg (fun z => h z.1), List.getElem?_set_ne h]
/-- a slot is stored -/
theorem Go.store (g : Go K W F H r σ F1 H1 r1 σ1) {i : Nat} {o : O} {v : V} (w : W i) (l : i < σ1.length) (ro : RO K F1 H1 o v) (n : isOwn o = true → ∀ a, v = .ref a → H a = none ∧ ¬ Ow r1 σ1 a) :
    Go K W F H r σ F1 H1 (r1.set i (some o)) (σ1.set i (some v)) := by
  have l2 : i < r1.length := by rw [g.re.len]; exact l
  have oth : ∀ j p, En.at (r1.set i (some o)) j = some p → (j = i ∧ p = o) ∨ (i ≠ j ∧ r1.at j = some p) := fun j p hp => by
    rw [at_set] at hp
    by_cases c : i = j
    · rw [if_pos ⟨c, l2⟩] at hp
      cases hp
      exact .inl ⟨c.symm, rfl⟩
    · rw [if_neg fun z => c z.1] at hp
      exact .inr ⟨c, hp⟩
  have self : (σ1.set i (some v))[i]? = some (some v) := by rw [sig_set, if_pos ⟨rfl, l⟩]
  have other : ∀ j, i ≠ j → (σ1.set i (some v))[j]? = σ1[j]? := fun j c => by rw [sig_set, if_neg fun z => c z.1]
  refine ⟨g.ex, ⟨by rw [List.length_set, List.length_set]; exact g.re.len, fun j p hp => ?_, fun j k oj ok b hj hk wj wk sj sk => ?_, g.re.dom⟩, fun j p b hp ow sj => ?_, fun j c => ?_, by rw [List.length_set]; exact g.ln⟩
  · rcases oth j p hp with ⟨rfl, rfl⟩ | ⟨c, hp⟩
    · exact ⟨v, self, ro⟩
    · obtain ⟨u, e, r2⟩ := g.re.val j p hp
      exact ⟨u, by rw [other j c]; exact e, r2⟩
  · rcases oth j oj hj with ⟨rfl, rfl⟩ | ⟨cj, hj'⟩
    · rcases oth k ok hk with ⟨rfl, rfl⟩ | ⟨ck, hk'⟩
      · rfl
      · rw [self] at sj
        rw [other k ck] at sk
        cases sj
        exact absurd ⟨k, ok, hk', wk, sk⟩ (n wj b rfl).2
    · rw [other j cj] at sj
      rcases oth k ok hk with ⟨rfl, rfl⟩ | ⟨ck, hk'⟩
      · rw [self] at sk
        cases sk
        exact absurd ⟨j, oj, hj', wj, sj⟩ (n wk b rfl).2
      · rw [other k ck] at sk
        exact g.re.sep j k oj ok b hj' hk' wj wk sj sk
  · rcases oth j p hp with ⟨rfl, rfl⟩ | ⟨cj, hp⟩
    · rw [self] at sj
      cases sj
      exact .inr ⟨w, (n ow b rfl).1⟩
    · rw [other j cj] at sj
      exact g.sub j p b hp ow sj
  · have : i ≠ j := fun z => by
      subst z
      exact c w
    rw [other j this]
    exact g.fix j c
theorem Go.start (re : RE K F H r σ) (W : Nat → Prop) : Go K W F H r σ F H r σ := .refl re
end
/-! ### targets -/
mutual
def tgSl : Tg → List Nat
  | .nm i => [i]
  | .tp ts => tgsSl ts
def tgsSl : List Tg → List Nat
  | [] => []
  | t :: ts => tgSl t ++ tgsSl ts
end
mutual
theorem tgOk_sl {pn : List Nat} : ∀ {t : Tg}, tgOk pn t = true → ∀ i ∈ tgSl t, i ∉ pn
  | .nm j, h, i, hi => by
    rw [tgSl, List.mem_singleton] at hi
    subst hi
    simpa [tgOk] using h
  | .tp ts, h, i, hi => tgsOk_sl (ts := ts) (by simpa [tgOk] using h) i (by simpa [tgSl] using hi)
theorem tgsOk_sl {pn : List Nat} : ∀ {ts : List Tg}, tgsOk pn ts = true → ∀ i ∈ tgsSl ts, i ∉ pn
  | [], _, i, hi => by simp [tgsSl] at hi
  | t :: ts, h, i, hi => by
    rw [tgsOk, Bool.and_eq_true] at h
    rw [tgsSl, List.mem_append] at hi
    rcases hi with hi | hi
    · exact tgOk_sl h.1 i hi
    · exact tgsOk_sl h.2 i hi
end
mutual
theorem tgIn_sl {own : List Nat} : ∀ {t : Tg}, tgIn own t = true → ∀ i ∈ tgSl t, i ∈ own
  | .nm j, h, i, hi => by
    rw [tgSl, List.mem_singleton] at hi
    subst hi
    simpa [tgIn] using h
  | .tp ts, h, i, hi => tgsIn_sl (ts := ts) (by simpa [tgIn] using h) i (by simpa [tgSl] using hi)
theorem tgsIn_sl {own : List Nat} : ∀ {ts : List Tg}, tgsIn own ts = true → ∀ i ∈ tgsSl ts, i ∈ own
  | [], _, i, hi => by simp [tgsSl] at hi
  | t :: ts, h, i, hi => by
    rw [tgsIn, Bool.and_eq_true] at h
    rw [tgsSl, List.mem_append] at hi
    rcases hi with hi | hi
    · exact tgIn_sl h.1 i hi
    · exact tgsIn_sl h.2 i hi
end
def TGm (K : PySem.W.Frag) (W : Nat → Prop) (t : Tg) : TG := fun v σ H Q => ∃ F r d r', RE K F H r σ ∧ Rv K F H v d ∧ asgT t d r = some r' ∧ ∀ σ', Go K W F H r σ F H r' σ' → Q σ' H
def TGms (K : PySem.W.Frag) (W : Nat → Prop) (ts : List Tg) : TGs := fun vs σ H Q => ∃ F r ds r', RE K F H r σ ∧ RvA K F H vs ds ∧ asgTs ts ds r = some r' ∧ ∀ σ', Go K W F H r σ F H r' σ' → Q σ' H
section
variable {X : Cx} {W : Nat → Prop} {pos : Pos}
theorem wkG {e : Expr} {t t' : TG} (h : PG X e t) (w : ∀ v σ H Q, t' v σ H Q → t v σ H Q) : PG X e t' := ⟨fun pins s σ H v u Q I r k => h.run pins s σ H v u Q I r (w v σ H Q k)⟩
theorem wkGs {es : List Expr} {t t' : TGs} (h : PGs X es t) (w : ∀ v σ H Q, t' v σ H Q → t v σ H Q) : PGs X es t' := ⟨fun pins s σ H v u Q I r k => h.run pins s σ H v u Q I r (w v σ H Q k)⟩
theorem pg_nm {i : Nat} {x : Str} (hN : X.N.Nodup) (hi : X.N[i]? = some x) (hx : Loc X.env.scope x) (hf : X.fn x = true ∨ X.env.scope.names.lookup x = some .local) (w : W i) : PG X (.Name x pos) (TGm X.K W (.nm i)) := by
  refine ⟨fun pins s σ H v u Q I rv ⟨F, r, d, r', re, hv, e, k⟩ => ?_⟩
  refine (pg_name hN hi hx hf).run pins s σ H v u Q I rv ?_
  rw [asgT] at e
  cases e
  have l : i < σ.length := by
    rw [I.len]
    exact (List.getElem?_eq_some_iff.mp hi).1
  exact k _ ((Go.refl re).store w l hv fun z => nomatch z)
theorem pgs_0 : PGs X [] (TGms X.K W []) := wkGs pgs_nil fun vs σ H Q ⟨F, r, ds, r', re, hv, e, k⟩ => by
  cases ds with
  | nil =>
    cases hv
    cases e
    exact ⟨rfl, k σ (.refl re)⟩
  | cons d ds => cases e
theorem pgs_1 {e : Expr} {es : List Expr} {t : Tg} {ts : List Tg} (h1 : PG X e (TGm X.K W t)) (h2 : PGs X es (TGms X.K W ts)) (hs : (assignEach (e :: es) X.env).map (·.2) = assign e X.env :: (assignEach es X.env).map (·.2)) : PGs X (e :: es) (TGms X.K W (t :: ts)) :=
  wkGs (pgs_cons h1 h2 hs) fun vs σ H Q ⟨F, r, ds, r', re, hv, e, k⟩ => by
    cases ds with
    | nil => cases e
    | cons d ds =>
      cases hv with
      | cons hv1 hv2 =>
        rw [asgTs, Option.bind_eq_some_iff] at e
        obtain ⟨r1, e1, e2⟩ := e
        refine ⟨_, _, rfl, F, r, d, r1, re, hv1, e1, fun σ1 g1 => ⟨F, r1, ds, r', g1.re, hv2, e2, fun σ2 g2 => k σ2 (g1.trans g2)⟩⟩
theorem pg_tp {es : List Expr} {k : Nat} {ts : List Tg} (hc : X.calm = true) (h : PGs X es (TGms X.K W ts)) (hn : (assignEach es X.env).length = ts.length) (hst : (assignEach es X.env).findIdx? (·.1) = none) : PG X (.Tuple es k pos) (TGm X.K W (.tp ts)) :=
  wkG (pg_tup hc h hn hst) fun v σ H Q ⟨F, r, d, r', re, hv, e, k⟩ => by
    cases d with
    | tuple ds =>
      obtain ⟨a, xs, rfl, h1, h2, h3⟩ := Rv.tupE hv
      rw [asgT] at e
      refine ⟨a, xs, rfl, h1, ?_, F, r, ds, r', re, h3, e, k⟩
      rw [RvA.length h3]
      exact asgTs_len e
    | _ => cases e
where
  asgTs_len : ∀ {ts : List Tg} {ds : List D} {r r' : En}, asgTs ts ds r = some r' → ds.length = ts.length
  | [], [], _, _, _ => rfl
  | [], _ :: _, _, _, h => by cases h
  | _ :: _, [], _, _, h => by cases h
  | _ :: ts, _ :: ds, _, _, h => by
    rw [asgTs, Option.bind_eq_some_iff] at h
    obtain ⟨r1, _, e2⟩ := h
    exact congrArg Nat.succ (asgTs_len e2)
end
/-! ### statements -/
/-- what a return hands out -/
def RT (K : PySem.W.Frag) (W : Nat → Prop) (H : Hp) (r : En) (σ : L2.St) (F' : Addr → Prop) (H' : Hp) (r' : En) (σ' : L2.St) (o : O) (v : V) : Prop :=
  RO K F' H' o v ∧ (isOwn o = true → ∀ a, v = .ref a → ((∃ i o0, W i ∧ r.at i = some o0 ∧ isOwn o0 = true ∧ σ[i]? = some (some (.ref a))) ∨ H a = none) ∧ ¬ Ow r' σ' a)
def Wn (pn : List Nat) : Nat → Prop := fun i => i ∉ pn
def TSm (K : PySem.W.Frag) (pn : List Nat) (f : En → Option (Fl × En)) : TS := fun D σ H => ∃ F r fl r', RE K F H r σ ∧ f r = some (fl, r') ∧ match fl with
  | .nx => ∀ σ' H' F', Go K (Wn pn) F H r σ F' H' r' σ' → D.nx σ' H'
  | .bk => ∀ σ' H' F', Go K (Wn pn) F H r σ F' H' r' σ' → D.bk σ' H'
  | .ct => ∀ σ' H' F', Go K (Wn pn) F H r σ F' H' r' σ' → D.ct σ' H'
  | .rt o => ∀ v σ' H' F', Go K (Wn pn) F H r σ F' H' r' σ' → RT K (Wn pn) H r σ F' H' r' σ' o v → D.rt v H'
section
variable {K : PySem.W.Frag} {F F' F1 : Addr → Prop} {H H' H1 : Hp} {r r' r1 : En} {σ σ' σ1 : L2.St} {W : Nat → Prop}
theorem RT.back (g : Go K W F H r σ F1 H1 r1 σ1) {o : O} {v : V} (h : RT K W H1 r1 σ1 F' H' r' σ' o v) : RT K W H r σ F' H' r' σ' o v :=
  ⟨h.1, fun w a z => ⟨by
    rcases (h.2 w a z).1 with ⟨i, o0, q1, q2, q3, q4⟩ | q
    · rcases g.sub i o0 a q2 q3 q4 with ⟨o1, p1, p2, p3⟩ | ⟨_, p⟩
      · exact .inl ⟨i, o1, q1, p1, p2, p3⟩
      · exact .inr p
    · exact .inr (g.ex.dom a q), (h.2 w a z).2⟩⟩
end
section
variable {X : Cx} {pn : List Nat} {g : Ga} {pos : Pos}
theorem wkSs {st : List Stmt} {t t' : TS} (h : PSs X st t) (w : ∀ D σ H, t' D σ H → t D σ H) : PSs X st t' := ⟨fun pins s σ H D I k => h.run pins s σ H D I (w D σ H k)⟩
theorem pss_0 : PSs X [] (TSm X.K pn (exs g pn [])) := wkSs pss_nil fun D σ H ⟨F, r, fl, r', re, e, k⟩ => by
  rw [exs] at e
  cases e
  exact k σ H F (.refl re)
theorem pss_1 {st : Stmt} {rest : List Stmt} {c : CS} {cs : List CS} (h1 : PS X st (TSm X.K pn (ex g pn c))) (h2 : PSs X rest (TSm X.K pn (exs g pn cs))) : PSs X (st :: rest) (TSm X.K pn (exs g pn (c :: cs))) :=
  wkSs (pss_cons h1 h2) fun D σ H ⟨F, r, fl, r', re, e, k⟩ => by
    rw [exs] at e
    cases q : ex g pn c r with
    | none =>
      rw [q] at e
      cases e
    | some p =>
      obtain ⟨f1, r1⟩ := p
      rw [q] at e
      refine ⟨F, r, f1, r1, re, q, ?_⟩
      cases f1 with
      | nx =>
        intro σ1 H1 F1 g1
        refine ⟨F1, r1, fl, r', g1.re, e, ?_⟩
        cases fl with
        | nx => exact fun σ2 H2 F2 g2 => k σ2 H2 F2 (g1.trans g2)
        | bk => exact fun σ2 H2 F2 g2 => k σ2 H2 F2 (g1.trans g2)
        | ct => exact fun σ2 H2 F2 g2 => k σ2 H2 F2 (g1.trans g2)
        | rt o => exact fun v σ2 H2 F2 g2 rt => k v σ2 H2 F2 (g1.trans g2) (rt.back g1)
      | bk =>
        cases e
        exact k
      | ct =>
        cases e
        exact k
      | rt o =>
        cases e
        exact k
theorem ps_asg1 {i : Nat} {x : Str} {e : Expr} {c : CE} {pos' : Pos} (hN : X.N.Nodup) (hi : X.N[i]? = some x) (hx : Loc X.env.scope x) (hf : X.fn x = true ∨ X.env.scope.names.lookup x = some .local) (he : PE X e (TD X.K (ev g c)))
    (hs : swapsWith e (some (.Name x pos')) pos.line X.env = pure false) : PS X (.Assign [.Name x pos'] e pos) (TSm X.K pn (ex g pn (.asg (.nm i) c))) := by
  refine ⟨fun pins s σ H D I ⟨F, r, fl, r', re, h, k⟩ => ?_⟩
  refine (ps_set hN hi hx he hs hf).run pins s σ H D I ?_
  rw [ex] at h
  split at h
  · cases h
  · rename_i np
    simp only [Option.bind_eq_bind, Option.bind_eq_some_iff, Prod.exists] at h
    obtain ⟨o, r1, h1, h2⟩ := h
    cases h2
    have l : i < σ.length := by
      rw [I.len]
      exact (List.getElem?_eq_some_iff.mp hi).1
    refine ⟨F, r, o, r1, re, h1, fun v H1 F1 g1 rr => ?_⟩
    exact k _ H1 F1 ((g1.wide fun _ z => z.elim).store (by simpa [Wn] using np) l rr.1 rr.2)
theorem ps_tg {tg e : Expr} {t : List Tg} {c : CE} (he : PE X e (TD X.K (ev g c))) (hg : ∀ W : Nat → Prop, (∀ i ∈ tgsSl t, W i) → PG X tg (TGm X.K W (.tp t))) (hs : swapsWithSole [tg] e pos.line X.env = pure false) (hw : swappedStores [tg] e X.env = pure none)
    (h1 : (assignEach [tg] X.env).map (·.2) = [assign tg X.env]) : PS X (.Assign [tg] e pos) (TSm X.K pn (ex g pn (.asg (.tp t) c))) := by
  refine ⟨fun pins s σ H D I ⟨F, r, fl, r', re, h, k⟩ => ?_⟩
  rw [ex] at h
  split at h
  · rename_i ok
    refine (ps_asg he (hg (Wn pn) fun i hi => tgsOk_sl ok i hi) hs hw h1).run pins s σ H D I ?_
    simp only [Option.bind_eq_bind, Option.bind_eq_some_iff, Prod.exists] at h
    obtain ⟨o, r1, h1, r2, h2, h3⟩ := h
    cases h3
    refine ⟨F, r, o, r1, re, h1, fun v H1 F1 g1 rr => ?_⟩
    obtain ⟨F2, g2, rv⟩ := g1.frz re rr
    exact ⟨F2, r1, o.d, r', g2.re, rv, h2, fun σ' g3 => k σ' H1 F2 ((g2.wide fun _ z => z.elim).trans g3)⟩
  · cases h
theorem ps_exp {e : Expr} {c : CE} (he : PE X e (TD X.K (ev g c))) (hs : swapsWith e none pos.line X.env = pure false) : PS X (.Expr e pos) (TSm X.K pn (ex g pn (.exp c))) :=
  wkS (ps_expr he hs) fun D σ H ⟨F, r, fl, r', re, h, k⟩ => by
    rw [ex] at h
    simp only [Option.bind_eq_bind, Option.bind_eq_some_iff, Prod.exists] at h
    obtain ⟨o, r1, h1, h2⟩ := h
    cases h2
    exact ⟨F, r, o, r', re, h1, fun v H1 F1 g1 rr => k σ H1 F1 (g1.wide fun _ z => z.elim)⟩
theorem ps_ret0 : PS X (.Return none pos) (TSm X.K pn (ex g pn (.ret none))) := wkS ps_retN fun D σ H ⟨F, r, fl, r', re, h, k⟩ => by
  rw [ex] at h
  cases h
  exact k .non σ H F (.refl re) ⟨.non, fun z => nomatch z⟩
/-- return of an expression that is no name -/
theorem ps_ret1 {e : Expr} {c : CE} (he : PE X e (TD X.K (ev g c))) (hn : ∀ i, c ≠ .nm i) : PS X (.Return (some e) pos) (TSm X.K pn (ex g pn (.ret (some c)))) :=
  wkS (ps_ret he) fun D σ H ⟨F, r, fl, r', re, h, k⟩ => by
    have h' : (ev g c r).map (fun p => (Fl.rt p.1, p.2)) = some (fl, r') := by
      rw [← h]
      cases c <;> first | exact absurd rfl (hn _) | (rw [ex] <;> first | (cases ev g _ r <;> rfl) | (intro i; exact hn i))
    cases q : ev g c r with
    | none =>
      rw [q] at h'
      cases h'
    | some p =>
      rw [q] at h'
      cases h'
      exact ⟨F, r, p.1, p.2, re, q, fun v H1 F1 g1 rr => k v σ H1 F1 (g1.wide fun _ z => z.elim) ⟨rr.1, fun w a z => ⟨.inr (rr.2 w a z).1, (rr.2 w a z).2⟩⟩⟩
theorem Ow_wipe {K : PySem.W.Frag} {F : Addr → Prop} {H : Hp} {r : En} {σ : L2.St} {i : Nat} {a : Addr} (re : RE K F H r σ) {o : O} (h : r.at i = some o) (w : isOwn o = true) (e : σ[i]? = some (some (.ref a))) : ¬ Ow (r.set i none) σ a := fun ⟨j, p, h1, h2, h3⟩ => by
  rw [at_set] at h1
  split at h1
  · cases h1
  · rename_i c
    have := re.sep i j o p a h h1 w h2 e h3
    exact c ⟨this, at_lt h⟩
theorem RE.wipe1 {K : PySem.W.Frag} {F : Addr → Prop} {H : Hp} {r : En} {σ : L2.St} (re : RE K F H r σ) (i : Nat) : RE K F H (r.set i none) σ := by
  have oth : ∀ j p, En.at (r.set i none) j = some p → r.at j = some p := fun j p hp => by
    rw [at_set] at hp
    split at hp
    · cases hp
    · exact hp
  exact ⟨by rw [List.length_set]; exact re.len, fun j p hp => re.val j p (oth j p hp), fun j k oj ok b hj hk wj wk sj sk => re.sep j k oj ok b (oth j _ hj) (oth k _ hk) wj wk sj sk, re.dom⟩
/-- return of a name: what is the slot's own goes out -/
theorem ps_ret2 {e : Expr} {i : Nat} (hv : PE X e (tVar i)) : PS X (.Return (some e) pos) (TSm X.K pn (ex g pn (.ret (some (.nm i))))) := by
  by_cases hp : pn.contains i = true
  · refine wkS (ps_ret (pe_nm g hv)) fun D σ H ⟨F, r, fl, r', re, h, k⟩ => ?_
    rw [ex, if_pos hp] at h
    simp only [Option.bind_eq_bind, Option.bind_eq_some_iff, Prod.exists] at h
    obtain ⟨o, r1, h1, h2⟩ := h
    cases h2
    exact ⟨F, r, o, r', re, h1, fun v H1 F1 g1 rr => k v σ H1 F1 (g1.wide fun _ z => z.elim) ⟨rr.1, fun w a z => ⟨.inr (rr.2 w a z).1, (rr.2 w a z).2⟩⟩⟩
  · refine wkS (ps_ret hv) fun D σ H ⟨F, r, fl, r', re, h, k⟩ => ?_
    rw [ex, if_neg hp] at h
    simp only [Option.bind_eq_bind, Option.bind_eq_some_iff] at h
    obtain ⟨o, h1, h2⟩ := h
    cases h2
    obtain ⟨v, e1, ro⟩ := re.val i o h1
    refine ⟨v, e1, k v σ H F ⟨.refl, re.wipe1 i, fun j p b hj ow sj => ?_, fun _ _ => rfl, rfl⟩ ⟨ro, fun w a z => ⟨.inl ⟨i, o, by simpa [Wn] using hp, h1, w, by rw [e1, z]⟩, Ow_wipe re h1 w (by rw [e1, z])⟩⟩⟩
    rw [at_set] at hj
    split at hj
    · cases hj
    · exact .inl ⟨p, hj, ow, sj⟩
theorem ps_if' {c : Expr} {a b : List Stmt} {z : CE} {x y : List CS} (hc : PT X c (TB X.K (ev g z))) (ha : PSs X a (TSm X.K pn (exs g pn x))) (hb : PSs X b (TSm X.K pn (exs g pn y))) : PS X (.If c a b pos) (TSm X.K pn (ex g pn (.iff z x y))) :=
  wkS (ps_if hc ha hb) fun D σ H ⟨F, r, fl, r', re, h, k⟩ => by
    rw [ex] at h
    simp only [Option.bind_eq_bind, Option.bind_eq_some_iff, Prod.exists] at h
    obtain ⟨o, r1, h1, q, hq, h⟩ := h
    unfold bolO at hq
    split at hq
    · cases hq
      refine ⟨F, r, q, r1, re, h1, fun H1 F1 g1 => ?_⟩
      have g1' : Go X.K (Wn pn) F H r σ F1 H1 r1 σ := g1.wide fun _ z => z.elim
      have fin : ∀ {w : List CS}, exs g pn w r1 = some (fl, r') → TSm X.K pn (exs g pn w) D σ H1 := fun h => by
        refine ⟨F1, r1, fl, r', g1.re, h, ?_⟩
        cases fl with
        | nx => exact fun σ2 H2 F2 g2 => k σ2 H2 F2 (g1'.trans g2)
        | bk => exact fun σ2 H2 F2 g2 => k σ2 H2 F2 (g1'.trans g2)
        | ct => exact fun σ2 H2 F2 g2 => k σ2 H2 F2 (g1'.trans g2)
        | rt o => exact fun v σ2 H2 F2 g2 rt => k v σ2 H2 F2 (g1'.trans g2) (rt.back g1')
      cases q with
      | true => exact fin h
      | false => exact fin h
    · cases hq
theorem ps_brk : PS X (.Break pos) (TSm X.K pn (ex g pn .brk)) := wkS ps_break fun D σ H ⟨F, r, fl, r', re, h, k⟩ => by
  rw [ex] at h
  cases h
  exact k σ H F (.refl re)
theorem ps_cnt : PS X (.Continue pos) (TSm X.K pn (ex g pn .cnt)) := wkS ps_continue fun D σ H ⟨F, r, fl, r', re, h, k⟩ => by
  rw [ex] at h
  cases h
  exact k σ H F (.refl re)
theorem ps_pas {st : Stmt} (h : PS X st tNext) : PS X st (TSm X.K pn (ex g pn .pas)) := wkS h fun D σ H ⟨F, r, fl, r', re, h, k⟩ => by
  rw [ex] at h
  cases h
  exact k σ H F (.refl re)
theorem ps_nev {st : Stmt} : PS X st (TSm X.K pn (ex g pn .nev)) := wkS ps_never fun D σ H ⟨F, r, fl, r', re, h, k⟩ => by
  rw [ex] at h
  cases h
end
end Mp
end

/-! ## MpLoop -/
section
set_option linter.all false
set_option maxRecDepth 100000
/-! Mp: loops. -/
namespace Mp
open PySem PySem.Spec PyProof.Rows L2
/-- what an iterator of the items ds does, now and later -/
structure IOk (K : PySem.W.Frag) (J : L2.It) (F : Addr → Prop) (H : Hp) (ds : List D) : Prop where
  go : ∀ (i : Nat) (d : D) (M F' : Addr → Prop) (H' : Hp), Mok M F H → Ex M F H F' H' → ds[i]? = some d → J.go i H'
  yld : ∀ (i : Nat) (d : D) (M F' : Addr → Prop) (H' : Hp) (x : V) (H2 : Hp), Mok M F H → Ex M F H F' H' → ds[i]? = some d → J.yld i H' x H2 → Sub H' H2 ∧ Rv K F' H2 x d
  stop : ∀ (i : Nat) (M F' : Addr → Prop) (H' : Hp), Mok M F H → Ex M F H F' H' → ds.length ≤ i → J.stop i H'
  len : ds.length ≤ SZ
/-- an iterable's reading by its run -/
def TIm (K : PySem.W.Frag) (f : En → Option (List D × En)) : TI := fun σ H R => ∃ F r ds r', RE K F H r σ ∧ f r = some (ds, r') ∧ ∀ J H' F', GoE K F H r σ F' H' r' → IOk K J F' H' ds → R J H'
theorem wkI {X : Cx} {tg e : Expr} {t t' : TI} (h : PI X tg e t) (w : ∀ σ H R, t' σ H R → t σ H R) : PI X tg e t' := ⟨fun pins s σ H R I k => h.run pins s σ H R I (w σ H R k)⟩
/-! ### for -/
section
variable {K : PySem.W.Frag} {pn : List Nat}
/-- what is wanted at the end of a loop's run -/
def Fin (K : PySem.W.Frag) (pn : List Nat) (D : Ends) (F : Addr → Prop) (H : Hp) (r : En) (σ : L2.St) (fl : Fl) (r' : En) : Prop := match fl with
  | .nx => ∀ σ' H' F', Go K (Wn pn) F H r σ F' H' r' σ' → D.nx σ' H'
  | .bk => ∀ σ' H' F', Go K (Wn pn) F H r σ F' H' r' σ' → D.bk σ' H'
  | .ct => ∀ σ' H' F', Go K (Wn pn) F H r σ F' H' r' σ' → D.ct σ' H'
  | .rt o => ∀ v σ' H' F', Go K (Wn pn) F H r σ F' H' r' σ' → RT K (Wn pn) H r σ F' H' r' σ' o v → D.rt v H'
theorem Fin.back {D : Ends} {F F1 : Addr → Prop} {H H1 : Hp} {r r1 r' : En} {σ σ1 : L2.St} {fl : Fl} (g : Go K (Wn pn) F H r σ F1 H1 r1 σ1) (k : Fin K pn D F H r σ fl r') : Fin K pn D F1 H1 r1 σ1 fl r' := by
  cases fl with
  | nx => exact fun σ2 H2 F2 g2 => k σ2 H2 F2 (g.trans g2)
  | bk => exact fun σ2 H2 F2 g2 => k σ2 H2 F2 (g.trans g2)
  | ct => exact fun σ2 H2 F2 g2 => k σ2 H2 F2 (g.trans g2)
  | rt o => exact fun v σ2 H2 F2 g2 rt => k v σ2 H2 F2 (g.trans g2) (rt.back g)
theorem loop_nobk {f : D → En → Option (Fl × En)} : ∀ {xs : List D} {r : En} {fl : Fl} {r' : En}, forLoop f xs r = some (fl, r') → fl = .nx ∨ ∃ o, fl = .rt o
  | [], r, fl, r', h => by
    cases h
    exact .inl rfl
  | x :: xs, r, fl, r', h => by
    rw [forLoop] at h
    split at h
    · exact loop_nobk h
    · exact loop_nobk h
    · cases h
      exact .inl rfl
    · cases h
      exact .inr ⟨_, rfl⟩
    · cases h
variable {X : Cx}
theorem ps_for' {tg iter : Expr} {body : List Stmt} {t : Tg} {it : It} {cs : List CS} {g : Ga} {pos : Pos} (hp : PassesOwn (model X.prog X.w) X.A X.env X.xe) (hc : X.calm = true) (hi : PI X tg iter (TIm X.K (evit g it)))
    (hg : ∀ W : Nat → Prop, (∀ i ∈ tgSl t, W i) → PG X tg (TGm X.K W t)) (hb : PSs X body (TSm X.K pn (exs g pn cs))) (hs : ∀ x, foldedSetIterable iter X.env x = pure x) :
    PS X (.For tg iter body [] pos) (TSm X.K pn (ex g pn (.for t it cs))) := by
  refine ⟨fun pins s σ H D I ⟨F, r, fl, r', re, h, k⟩ => ?_⟩
  have k : Fin X.K pn D F H r σ fl r' := k
  rw [ex] at h
  simp only [Option.bind_eq_bind, Option.bind_eq_some_iff, Prod.exists] at h
  obtain ⟨ds, r1, h1, h⟩ := h
  split at h
  · rename_i ok
    have hg := hg (Wn pn) fun i hi => tgOk_sl ok i hi
    refine (ps_for hp hc hi hg hb hs).run pins s σ H D I ⟨F, r, ds, r1, re, h1, fun J H1 F1 g1 jo => ?_⟩
    have g1w : Go X.K (Wn pn) F H r σ F1 H1 r1 σ := g1.wide fun _ z => z.elim
    have k1 := k.back g1w
    clear k
    refine ⟨fun i m σi Hi => m = ds.length - i ∧ i ≤ ds.length ∧ ∃ Fi ri, Go X.K (Wn pn) F1 H1 r1 σ Fi Hi ri σi ∧ forLoop (fun x r => do
        let r ← asgT t x r
        exs g pn cs r) (ds.drop i) ri = some (fl, r'), ⟨ds.length, ?_⟩, ?_⟩
    · exact ⟨rfl, Nat.zero_le _, F1, r1, .refl g1.re, by rw [List.drop_zero]; exact h⟩
    · rintro i m σi Hi ⟨rfl, hi, Fi, ri, gi, hl⟩
      by_cases hlt : i < ds.length
      · have hx : ds[i]? = some ds[i] := List.getElem?_eq_getElem hlt
        rw [List.drop_eq_getElem_cons hlt, forLoop] at hl
        refine .inr ⟨jo.go i ds[i] (Ow r1 σ) Fi Hi g1.re.mok gi.ex hx, fun σ' H' => ds.length - (i + 1) < ds.length - i ∧ i + 1 ≤ ds.length ∧ ∃ Fi' ri', Go X.K (Wn pn) F1 H1 r1 σ Fi' H' ri' σ' ∧ forLoop (fun x r => do
        let r ← asgT t x r
        exs g pn cs r) (ds.drop (i + 1)) ri' = some (fl, r'), ?_, fun x H2 y => ?_⟩
        · rintro σ' H' ⟨a1, a2, a3⟩
          exact ⟨_, a1, rfl, a2, a3⟩
        · obtain ⟨sub, rv⟩ := jo.yld i ds[i] (Ow r1 σ) Fi Hi x H2 g1.re.mok gi.ex hx y
          have gi2 : Go X.K (Wn pn) F1 H1 r1 σ Fi H2 ri σi := gi.trans (Go.pure gi.re sub)
          cases q : asgT t ds[i] ri with
          | none =>
            simp only [q, Option.bind_eq_bind, Option.bind_none] at hl
            cases hl
          | some r2 =>
            simp only [q, Option.bind_eq_bind, Option.bind_some] at hl
            refine ⟨Fi, ri, ds[i], r2, gi2.re, rv, q, fun σ2 g2 => ?_⟩
            have gi3 := gi2.trans g2
            cases q2 : exs g pn cs r2 with
            | none =>
              rw [q2] at hl
              cases hl
            | some p =>
              obtain ⟨f1, r3⟩ := p
              rw [q2] at hl
              refine ⟨Fi, r2, f1, r3, gi3.re, q2, ?_⟩
              cases f1 with
              | nx => exact fun σ3 H3 F3 g3 => ⟨by omega, hlt, F3, r3, gi3.trans g3, hl⟩
              | ct => exact fun σ3 H3 F3 g3 => ⟨by omega, hlt, F3, r3, gi3.trans g3, hl⟩
              | bk =>
                cases hl
                exact fun σ3 H3 F3 g3 => k1 σ3 H3 F3 (gi3.trans g3)
              | rt o =>
                cases hl
                exact fun v σ3 H3 F3 g3 rt => k1 v σ3 H3 F3 (gi3.trans g3) (rt.back gi3)
      · have : i = ds.length := by omega
        subst this
        rw [List.drop_length, forLoop] at hl
        cases hl
        exact .inl ⟨jo.stop _ (Ow r1 σ) Fi Hi g1.re.mok gi.ex (Nat.le_refl _), k1 σi Hi Fi gi⟩
  · cases h
/-! ### while -/
/-- the run of a while loop, counted -/
def whlN (c : En → Option (Bool × En)) (b : En → Option (Fl × En)) : Nat → En → Option (Fl × En)
  | 0, _ => none
  | n + 1, r => match c r with
    | none => none
    | some (false, r) => some (.nx, r)
    | some (true, r) => match b r with
      | none => none
      | some (.bk, r) => some (.nx, r)
      | some (.rt o, r) => some (.rt o, r)
      | some (.nx, r) => whlN c b n r
      | some (.ct, r) => whlN c b n r
theorem whl_counted (c : En → Option (Bool × En)) (b : En → Option (Fl × En)) (r : En) (q : Fl × En) (h : whlLoop c b r = some q) : ∃ n, whlN c b n r = some q := by
  refine whlLoop.partial_correctness c b (fun r q => ∃ n, whlN c b n r = some q) ?_ r q h
  intro f ih r q h
  cases h1 : c r with
  | none =>
    rw [h1] at h
    cases h
  | some p =>
    obtain ⟨k, r1⟩ := p
    rw [h1] at h
    cases k with
    | false => exact ⟨1, by rw [whlN, h1]; exact h⟩
    | true =>
      cases h2 : b r1 with
      | none =>
        simp only [h2] at h
        cases h
      | some p =>
        obtain ⟨fl, r2⟩ := p
        simp only [h2] at h
        cases fl with
        | nx =>
          obtain ⟨n, hn⟩ := ih r2 q h
          exact ⟨n + 1, by rw [whlN, h1]; simp only [h2]; exact hn⟩
        | ct =>
          obtain ⟨n, hn⟩ := ih r2 q h
          exact ⟨n + 1, by rw [whlN, h1]; simp only [h2]; exact hn⟩
        | bk => exact ⟨1, by rw [whlN, h1]; simp only [h2]; exact h⟩
        | rt o => exact ⟨1, by rw [whlN, h1]; simp only [h2]; exact h⟩
theorem ps_whl {c : Expr} {body : List Stmt} {z : CE} {cs : List CS} {g : Ga} {pos : Pos} (hp : PassesOwn (model X.prog X.w) X.A X.env X.xe) (hc : PT X c (TB X.K (ev g z))) (hb : PSs X body (TSm X.K pn (exs g pn cs))) :
    PS X (.While c body [] pos) (TSm X.K pn (ex g pn (.whl z cs))) :=
  wkS (ps_while hp hc hb) fun D σ H ⟨F, r, fl, r', re, h, k⟩ => by
    have k : Fin X.K pn D F H r σ fl r' := k
    rw [ex] at h
    obtain ⟨n, hn⟩ := whl_counted _ _ _ _ h
    clear h
    refine ⟨fun m σi Hi => ∃ Fi ri, Go X.K (Wn pn) F H r σ Fi Hi ri σi ∧ whlN (fun r => do
      let (x, r) ← ev g z r
      let q ← bolO x
      some (q, r)) (exs g pn cs) m ri = some (fl, r'), ⟨n, F, r, .refl re, hn⟩, ?_⟩
    rintro m σi Hi ⟨Fi, ri, gi, hl⟩
    cases m with
    | zero => cases hl
    | succ m =>
      rw [whlN] at hl
      simp only [Option.bind_eq_bind] at hl
      cases q : ev g z ri with
      | none =>
        simp only [q, Option.bind_none] at hl
        cases hl
      | some p =>
        obtain ⟨o, r1⟩ := p
        simp only [q, Option.bind_some] at hl
        cases q1 : bolO o with
        | none =>
          simp only [q1, Option.bind_none] at hl
          cases hl
        | some b =>
          simp only [q1, Option.bind_some] at hl
          unfold bolO at q1
          split at q1
          · cases q1
            refine ⟨Fi, ri, b, r1, gi.re, q, fun H1 F1 g1 => ?_⟩
            have g1w := gi.trans (g1.wide (W' := Wn pn) fun _ z => z.elim)
            cases b with
            | false =>
              cases hl
              exact k σi H1 F1 g1w
            | true =>
              show ∃ N : L2.St → Hp → Prop, _ ∧ _
              refine ⟨fun σ' H' => ∃ Fi ri, Go X.K (Wn pn) F H r σ Fi H' ri σ' ∧ whlN (fun r => do
      let (x, r) ← ev g z r
      let q ← bolO x
      some (q, r)) (exs g pn cs) m ri = some (fl, r'), fun σ' H' x => ⟨m, Nat.lt_succ_self m, x⟩, ?_⟩
              cases q2 : exs g pn cs r1 with
              | none =>
                simp only [q2] at hl
                cases hl
              | some p =>
                obtain ⟨f1, r3⟩ := p
                simp only [q2] at hl
                refine ⟨F1, r1, f1, r3, g1.re, q2, ?_⟩
                cases f1 with
                | nx => exact fun σ3 H3 F3 g3 => ⟨F3, r3, g1w.trans g3, hl⟩
                | ct => exact fun σ3 H3 F3 g3 => ⟨F3, r3, g1w.trans g3, hl⟩
                | bk =>
                  cases hl
                  exact fun σ3 H3 F3 g3 => k σ3 H3 F3 (g1w.trans g3)
                | rt o =>
                  cases hl
                  exact fun v σ3 H3 F3 g3 rt => k v σ3 H3 F3 (g1w.trans g3) (rt.back g1w)
          · cases q1
end
end Mp
end

/-! ## MpLc -/
section
set_option linter.all false
set_option maxRecDepth 100000
/-! Mp: comprehensions. -/
namespace Mp
open PySem PySem.Spec PyProof.Rows L2
section
variable {K : PySem.W.Frag} {F F' F1 : Addr → Prop} {H H' H1 : Hp} {r r' r1 : En} {σ σ' σ1 : L2.St} {W : Nat → Prop} {own : List Nat}
theorem wipe_len (r : En) : ∀ own : List Nat, (Mp.wipe r own).length = r.length
  | [] => rfl
  | i :: is => by
    show ((Mp.wipe r is).set i none).length = _
    rw [List.length_set, wipe_len r is]
theorem wipe_at (r : En) (j : Nat) : ∀ own : List Nat, (Mp.wipe r own).at j = if j ∈ own then none else r.at j
  | [] => rfl
  | i :: is => by
    show En.at ((Mp.wipe r is).set i none) j = _
    rw [at_set, wipe_at r j is]
    by_cases h : i = j
    · subst h
      by_cases l : i < (Mp.wipe r is).length
      · rw [if_pos ⟨rfl, l⟩, if_pos List.mem_cons_self]
      · rw [if_neg (fun z => l z.2), if_pos List.mem_cons_self]
        have : r.at i = none := by
          unfold En.at
          rw [List.getElem?_eq_none (by rw [← wipe_len r is]; omega)]
          rfl
        rw [this]
        split <;> rfl
    · rw [if_neg fun z => h z.1]
      by_cases m : j ∈ is
      · rw [if_pos m, if_pos (List.mem_cons_of_mem _ m)]
      · rw [if_neg m, if_neg fun z => (List.mem_cons.mp z).elim (fun q => h q.symm) m]
theorem wipeS_at (σ : L2.St) (j : Nat) : ∀ own : List Nat, j ∉ own → (L2.wipe σ own)[j]? = σ[j]?
  | [], _ => rfl
  | i :: is, h => by
    show ((L2.wipe σ is).set i none)[j]? = _
    rw [sig_set, if_neg (fun z => h (by rw [z.1]; exact List.mem_cons_self)), wipeS_at σ j is fun z => h (List.mem_cons_of_mem _ z)]
theorem wipeS_in (σ : L2.St) (j : Nat) : ∀ own : List Nat, j ∈ own → j < σ.length → (L2.wipe σ own)[j]? = some none
  | [], h, _ => nomatch h
  | i :: is, h, l => by
    show ((L2.wipe σ is).set i none)[j]? = _
    rw [sig_set, wipe_length]
    by_cases e : i = j
    · rw [if_pos ⟨e, by omega⟩]
    · rw [if_neg fun z => e z.1]
      exact wipeS_in σ j is ((List.mem_cons.mp h).resolve_left fun z => e z.symm) l
theorem wipeS_ext {σ σ' : L2.St} (hl : σ'.length = σ.length) (h : ∀ i, i ∉ own → σ'[i]? = σ[i]?) : L2.wipe σ' own = L2.wipe σ own := by
  apply List.ext_getElem?
  intro j
  by_cases m : j ∈ own
  · by_cases l : j < σ.length
    · rw [wipeS_in σ' j own m (by omega), wipeS_in σ j own m l]
    · rw [List.getElem?_eq_none (by rw [wipe_length]; omega), List.getElem?_eq_none (by rw [wipe_length]; omega)]
  · rw [wipeS_at σ' j own m, wipeS_at σ j own m, h j m]
theorem wipe_ow {a : Addr} (w : Ow (Mp.wipe r own) (L2.wipe σ own) a) : Ow r σ a := by
  obtain ⟨i, o, h1, h2, h3⟩ := w
  rw [wipe_at] at h1
  split at h1
  · cases h1
  · rename_i m
    rw [wipeS_at σ i own m] at h3
    exact ⟨i, o, h1, h2, h3⟩
theorem RE.wipe (e : RE K F H r σ) (own : List Nat) : RE K F H (Mp.wipe r own) (L2.wipe σ own) := by
  have oth : ∀ j p, (Mp.wipe r own).at j = some p → j ∉ own ∧ r.at j = some p := fun j p hp => by
    rw [wipe_at] at hp
    split at hp
    · cases hp
    · rename_i m
      exact ⟨m, hp⟩
  refine ⟨by rw [wipe_len, wipe_length]; exact e.len, fun j p hp => ?_, fun j k oj ok b hj hk wj wk sj sk => ?_, e.dom⟩
  · obtain ⟨m, hp⟩ := oth j p hp
    obtain ⟨v, e1, ro⟩ := e.val j p hp
    exact ⟨v, by rw [wipeS_at σ j own m]; exact e1, ro⟩
  · obtain ⟨m, hj⟩ := oth j oj hj
    obtain ⟨m2, hk⟩ := oth k ok hk
    rw [wipeS_at σ j own m] at sj
    rw [wipeS_at σ k own m2] at sk
    exact e.sep j k oj ok b hj hk wj wk sj sk
def Wo (own : List Nat) : Nat → Prop := fun i => i ∈ own
/-- a turn's end: the block's own names are forgotten -/
theorem Go.wiped (g : Go K (Wo own) F H r σ F' H' r' σ') (e : L2.wipe σ own = σ) : Go K (Wo own) F H r σ F' H' (Mp.wipe r' own) σ := by
  have eσ : L2.wipe σ' own = σ := by
    rw [← e]
    rw [wipeS_ext (σ := L2.wipe σ own) (σ' := σ')]
    · rw [e, e]
    · rw [e]
      exact g.ln
    · intro i hi
      rw [e]
      exact g.fix i hi
  have re := g.re.wipe own
  rw [eσ] at re
  refine ⟨g.ex, re, fun i o a h1 h2 h3 => ?_, fun _ _ => rfl, rfl⟩
  rw [wipe_at] at h1
  split at h1
  · cases h1
  · rename_i m
    have : σ'[i]? = some (some (.ref a)) := by rw [g.fix i m]; exact h3
    rcases g.sub i o a h1 h2 this with q | ⟨w, _⟩
    · exact .inl q
    · exact absurd w m
/-- a new object is changed that no slot has -/
theorem Go.updN (g : Go K W F H r σ F' H' r' σ') {D : Addr} {u u' : HO} (hD : H D = none) (h1 : H' D = some u) (m : MutO u) (m' : MutO u') (nf : ¬ F' D) (no : ¬ Ow r' σ' D) : Go K W F H r σ F' (upd H' D u') r' σ' := by
  have x : Ex (fun b => b = D) F' H' F' (upd H' D u') := ⟨fun a o e n => by rw [upd_ne n]; exact e, fun _ z => z, fun _ z => .inl z, fun a z => by
    by_cases q : a = D
    · subst q
      rw [upd_same] at z
      cases z
    · rw [upd_ne q] at z
      exact z⟩
  have mk : Mok (fun b => b = D) F' H' := fun b z => by
    subst z
    exact ⟨nf, u, h1, m⟩
  refine ⟨⟨fun a o e n => ?_, g.ex.fro, g.ex.new, fun a z => g.ex.dom a (x.dom a z)⟩, ⟨g.re.len, fun i o h => ?_, g.re.sep, fun a f z => g.re.dom a f (x.dom a z)⟩, g.sub, g.fix, g.ln⟩
  · have : a ≠ D := fun z => by
      subst z
      rw [hD] at e
      cases e
    rw [upd_ne this]
    exact g.ex.keep a o e n
  · obtain ⟨v, e1, ro⟩ := g.re.val i o h
    exact ⟨v, e1, ro.mono mk x fun w a z q => no (by
      subst q
      exact ⟨i, o, h, w, by rw [e1, z]⟩)⟩
theorem RvA.updN {p : Addr} {u u' : HO} {vs : List V} {ds : List D} (r : RvA K F H vs ds) (h1 : H p = some u) (m : MutO u) (nf : ¬ F p) : RvA K F (L2.upd H p u') vs ds :=
  RvA.mono (M := fun b => b = p) (fun b z => by
    subst z
    exact ⟨nf, u, h1, m⟩) ⟨fun a o e n => by rw [upd_ne n]; exact e, fun _ z => z, fun _ z => .inl z, fun a z => by
    by_cases q : a = p
    · subst q
      rw [upd_same] at z
      cases z
    · rw [upd_ne q] at z
      exact z⟩ r
theorem back_len (r0 r : En) : ∀ own : List Nat, (back r0 r own).length = r.length
  | [] => rfl
  | i :: is => by
    show ((back r0 r is).set i _).length = _
    rw [List.length_set, back_len r0 r is]
theorem back_at (r0 r : En) (hl : r0.length = r.length) (j : Nat) : ∀ own : List Nat, (back r0 r own).at j = if j ∈ own then r0.at j else r.at j
  | [] => rfl
  | i :: is => by
    show En.at ((back r0 r is).set i (r0.at i)) j = _
    rw [at_set, back_at r0 r hl j is]
    by_cases h : i = j
    · subst h
      by_cases l : i < (back r0 r is).length
      · rw [if_pos ⟨rfl, l⟩, if_pos List.mem_cons_self]
      · rw [if_neg (fun z => l z.2), if_pos List.mem_cons_self]
        have l' : ¬ i < r.length := by rw [← back_len r0 r is]; exact l
        have e1 : r0.at i = none := by
          unfold En.at
          rw [List.getElem?_eq_none (by omega)]
          rfl
        have e2 : r.at i = none := by
          unfold En.at
          rw [List.getElem?_eq_none (by omega)]
          rfl
        rw [e1, e2]
        split <;> rfl
    · rw [if_neg fun z => h z.1]
      by_cases m : j ∈ is
      · rw [if_pos m, if_pos (List.mem_cons_of_mem _ m)]
      · rw [if_neg m, if_neg fun z => (List.mem_cons.mp z).elim (fun q => h q.symm) m]
/-- behind the block: the block's own names are as they were -/
theorem Go.backed (e : RE K F H r σ) (g : Go K (Wo own) F H (Mp.wipe r own) (L2.wipe σ own) F' H' (Mp.wipe r' own) (L2.wipe σ own)) : GoE K F H r σ F' H' (back r r' own) := by
  have hl : r.length = r'.length := by
    have h1 := g.re.len
    rw [wipe_len, wipe_length] at h1
    rw [h1]
    exact e.len
  have mk := (e.wipe own).mok
  have oth : ∀ j p, (back r r' own).at j = some p → (j ∈ own ∧ r.at j = some p) ∨ (j ∉ own ∧ (Mp.wipe r' own).at j = some p) := fun j p hp => by
    rw [back_at r r' hl] at hp
    by_cases m : j ∈ own
    · rw [if_pos m] at hp
      exact .inl ⟨m, hp⟩
    · rw [if_neg m] at hp
      refine .inr ⟨m, ?_⟩
      rw [wipe_at, if_neg m]
      exact hp
  -- an own thing outside the block's names was there
  have was : ∀ j p a, j ∉ own → (Mp.wipe r' own).at j = some p → isOwn p = true → σ[j]? = some (some (.ref a)) → ∃ o0, r.at j = some o0 ∧ isOwn o0 = true := fun j p a m hp ow sj => by
    rcases g.sub j p a hp ow (by rw [wipeS_at σ j own m]; exact sj) with ⟨o0, q1, q2, _⟩ | ⟨w, _⟩
    · rw [wipe_at, if_neg m] at q1
      exact ⟨o0, q1, q2⟩
    · exact absurd w m
  refine ⟨g.ex.mono fun a w => wipe_ow w, ⟨by rw [back_len, ← hl]; exact e.len, fun j p hp => ?_, fun j k oj ok a hj hk wj wk sj sk => ?_, g.re.dom⟩, fun j p a hp ow sj => ?_, fun _ _ => rfl, rfl⟩
  · rcases oth j p hp with ⟨m, hp⟩ | ⟨m, hp⟩
    · obtain ⟨v, e1, ro⟩ := e.val j p hp
      refine ⟨v, e1, ro.mono mk g.ex fun w a z => ?_⟩
      rintro ⟨k, ok, h1, h2, h3⟩
      rw [wipe_at] at h1
      split at h1
      · cases h1
      · rename_i mk
        rw [wipeS_at σ k own mk] at h3
        have := e.sep j k p ok a hp h1 w h2 (by rw [e1, z]) h3
        subst this
        exact mk m
    · obtain ⟨v, e1, ro⟩ := g.re.val j p hp
      rw [wipeS_at σ j own m] at e1
      exact ⟨v, e1, ro⟩
  · have w1 : ∃ o0, r.at j = some o0 ∧ isOwn o0 = true := by
      rcases oth j oj hj with ⟨m, hp⟩ | ⟨m, hp⟩
      · exact ⟨_, hp, wj⟩
      · exact was j oj a m hp wj sj
    have w2 : ∃ o0, r.at k = some o0 ∧ isOwn o0 = true := by
      rcases oth k ok hk with ⟨m, hp⟩ | ⟨m, hp⟩
      · exact ⟨_, hp, wk⟩
      · exact was k ok a m hp wk sk
    obtain ⟨o1, p1, p2⟩ := w1
    obtain ⟨o2, p3, p4⟩ := w2
    exact e.sep j k o1 o2 a p1 p3 p2 p4 sj sk
  · rcases oth j p hp with ⟨m, hp⟩ | ⟨m, hp⟩
    · exact .inl ⟨p, hp, ow, sj⟩
    · obtain ⟨o0, q1, q2⟩ := was j p a m hp ow sj
      exact .inl ⟨o0, q1, q2, sj⟩
/-- what no slot has stays as it is -/
theorem Go.stay (g : Go K W F H r σ F' H' r' σ') {p : Addr} {u : HO} (e : H p = some u) (nf : ¬ F p) (no : ¬ Ow r σ p) : H' p = some u ∧ ¬ F' p ∧ ¬ Ow r' σ' p := by
  refine ⟨g.ex.keep p u e no, fun f => ?_, fun w => ?_⟩
  · rcases g.ex.new p f with z | z | z
    · exact nf z
    · exact no z
    · rw [e] at z
      cases z
  · rcases g.own p w with z | z
    · exact no z
    · rw [e] at z
      cases z
theorem wipe2 (σ : L2.St) (own : List Nat) : L2.wipe (L2.wipe σ own) own = L2.wipe σ own := wipeS_ext (wipe_length _ _) fun i h => wipeS_at σ i own h
theorem Mok_sub {M : Addr → Prop} (mk : Mok M F H) (_ : RE K F H r σ) : Mok M F H := mk
theorem Ex_sub {M : Addr → Prop} (x : Ex M F H F' H') : Ex M F H F' H' := x
theorem pts_0 {X : Cx} {g : Ga} : PTs X [] (TC X.K (evc g [])) := ⟨fun pins s σ H Q I ⟨F, r, b, r', re, h, k⟩ => by
  rw [evc] at h
  cases h
  exact pts_nil.run pins s σ H Q I (k H F (.refl re))⟩
theorem pts_1 {X : Cx} {g : Ga} {c : Expr} {z : CE} (h : PT X c (TB X.K (ev g z))) : PTs X [c] (TC X.K (evc g [z])) := ⟨fun pins s σ H Q I ⟨F, r, b, r', re, h1, k⟩ => by
  refine (pts_one h).run pins s σ H Q I ?_
  simp only [evc, Option.bind_eq_bind, Option.bind_eq_some_iff, Prod.exists] at h1
  obtain ⟨o, r1, h1, q, hq, h2⟩ := h1
  unfold bolO at hq
  split at hq
  · cases hq
    refine ⟨F, r, q, r1, re, h1, fun H1 F1 g1 => ?_⟩
    cases q with
    | false =>
      cases h2
      exact k H1 F1 g1
    | true =>
      cases h2
      exact k H1 F1 g1
  · cases hq⟩
end
section
variable {X : Cx} {g : Ga}
theorem pe_lc' {elt tg iter : Expr} {ifs : List Expr} {scope : Scope} {own : List (Str × Nat)} {pos : Pos} {t : Tg} {it : It} {ss : List CE} {x : CE} (hc : X.calm = true) (hN : X.N.Nodup) (hi : PI X tg iter (TIm X.K (evit g it))) (ok : BlkOk X.N X.env.scope scope own)
    (hg : ∀ (s : Shared) (H : Hp) (C : Addr) (cl : List (Str × Addr)) (fp : List Addr), PG (X.blk s H scope (compEnvC scope cl C X.env) fp) tg (TGm X.K (Wo (own.map (·.2))) t))
    (ht : ∀ (s : Shared) (H : Hp) (C : Addr) (cl : List (Str × Addr)) (fp : List Addr), PTs (X.blk s H scope (compEnvC scope cl C X.env) fp) ifs (TC X.K (evc g ss)))
    (he : ∀ (s : Shared) (H : Hp) (C : Addr) (cl : List (Str × Addr)) (fp : List Addr), PE (X.blk s H scope (compEnvC scope cl C X.env) fp) elt (TD X.K (ev g x))) (hs : ∀ x, foldedSetIterable iter X.env x = pure x) :
    PE X (.ListComp elt [⟨tg, iter, ifs, 0⟩] scope pos) (TD X.K (ev g (.lc (own.map (·.2)) x t it ss))) := by
  refine wk (pe_lc hc hN hi ok hg ht he hs) fun σ H Q h => lc_to h
where
  lc_to {t : Tg} {it : It} {ss : List CE} {x : CE} {vs : List Nat} {σ : L2.St} {H : Hp} {Q : VK} (h : TD X.K (ev g (.lc vs x t it ss)) σ H Q) : tLc (TIm X.K (evit g it)) (TGm X.K (Wo vs) t) (TC X.K (evc g ss)) (TD X.K (ev g x)) vs σ H Q := by
    obtain ⟨F, r, o, r', re, h, k⟩ := h
    simp only [ev, Option.bind_eq_bind, Option.bind_eq_some_iff, Prod.exists] at h
    obtain ⟨ds, r1, h1, ys, r2, h2, h3⟩ := h
    cases h3
    generalize hf : (fun (x_1 : D) (r : En) => (asgT t x_1 (Mp.wipe r vs)).bind fun r => (evc g ss r).bind fun p => match p with
      | (c, r) => match c with
        | false => some (none, r)
        | true => (ev g x r).bind fun p => match p with
          | (y, r) => some (some y.d, r)) = f at h2
    have lw : ∀ r : En, lcLoop f ds (Mp.wipe r vs) = lcLoop f ds (Mp.wipe r vs) := fun _ => rfl
    refine ⟨F, r, ds, r1, re, h1, fun J H1 F1 g1 jo => fun q hq => ?_⟩
    have rew : RE X.K F1 H1 (Mp.wipe r1 vs) (L2.wipe σ vs) := g1.re.wipe vs
    refine ⟨fun i m Hi => m = ds.length - i ∧ i ≤ ds.length ∧ ∃ Fi ri accV accD rest, Go X.K (Wo vs) F1 H1 (Mp.wipe r1 vs) (L2.wipe σ vs) Fi Hi (Mp.wipe ri vs) (L2.wipe σ vs) ∧ Hi q = some (.lst accV) ∧ ¬ Fi q ∧ ¬ Ow (Mp.wipe ri vs) (L2.wipe σ vs) q ∧
      accV.length ≤ i ∧ RvA X.K Fi Hi accV accD ∧ lcLoop f (ds.drop i) ri = some (rest, r2) ∧ accD ++ rest = ys, ⟨ds.length, rfl, Nat.zero_le _, F1, Mp.wipe r1 vs, [], [], ys, ?_⟩, ?_⟩
    · have g0 : Go X.K (Wo vs) F1 H1 (Mp.wipe r1 vs) (L2.wipe σ vs) F1 H1 (Mp.wipe (Mp.wipe r1 vs) vs) (L2.wipe σ vs) := Go.wiped (.refl rew) (wipe2 σ vs)
      have nf : ¬ F1 q := fun f => g1.re.dom q f hq
      have no : ¬ Ow (Mp.wipe (Mp.wipe r1 vs) vs) (L2.wipe σ vs) q := fun w => by
        rcases g0.own q w with z | z
        · exact (rew.ow_some z) hq
        · have := g0.re.ow_some w
          exact this hq
      exact ⟨g0.trans (Go.pure g0.re (Sub.new hq)), upd_same, nf, no, Nat.le_refl _, .nil, by rw [List.drop_zero]; exact h2, rfl⟩
    · rintro i m Hi ⟨rfl, hi, Fi, ri, accV, accD, rest, gi, hD, nf, no, hl, ra, hloop, hacc⟩
      by_cases hlt : i < ds.length
      · have hx : ds[i]? = some ds[i] := List.getElem?_eq_getElem hlt
        have mk := rew.mok
        refine .inr ⟨jo.go i ds[i] _ Fi Hi (Mok_sub mk g1.re) (Ex_sub gi.ex) hx, fun H' => ds.length - (i + 1) < ds.length - i ∧ i + 1 ≤ ds.length ∧ ∃ Fi ri accV accD rest, Go X.K (Wo vs) F1 H1 (Mp.wipe r1 vs) (L2.wipe σ vs) Fi H' (Mp.wipe ri vs) (L2.wipe σ vs) ∧ H' q = some (.lst accV) ∧ ¬ Fi q ∧ ¬ Ow (Mp.wipe ri vs) (L2.wipe σ vs) q ∧
          accV.length ≤ i + 1 ∧ RvA X.K Fi H' accV accD ∧ lcLoop f (ds.drop (i + 1)) ri = some (rest, r2) ∧ accD ++ rest = ys, ?_, fun x' H2 y => ?_⟩
        · rintro H' ⟨a1, a2, a3⟩
          exact ⟨_, a1, rfl, a2, a3⟩
        · obtain ⟨sub, rv⟩ := jo.yld i ds[i] _ Fi Hi x' H2 (Mok_sub mk g1.re) (Ex_sub gi.ex) hx y
          have gi2 := gi.trans (Go.pure gi.re sub)
          rw [List.drop_eq_getElem_cons hlt, lcLoop] at hloop
          simp only [Option.bind_eq_bind, Option.bind_eq_some_iff, Prod.exists, Option.some.injEq, Prod.mk.injEq] at hloop
          obtain ⟨yo, r3, hf1, rest', r4, hl2, hr, rfl⟩ := hloop
          subst hf
          simp only [Option.bind_eq_some_iff, Prod.exists] at hf1
          obtain ⟨ra1, ha1, c, rc, hc1, hf1⟩ := hf1
          have hD2 : H2 q = some (.lst accV) := sub q _ hD
          refine ⟨Fi, Mp.wipe ri vs, ds[i], ra1, gi2.re, rv, ha1, fun σ2 g2 => ⟨?_, Fi, ra1, c, rc, g2.re, hc1, fun H3 F3 g3 => ?_⟩⟩
          · rw [wipeS_ext (σ := L2.wipe σ vs) g2.ln fun j hj => g2.fix j hj, wipe2]
          · have g23 : Go X.K (Wo vs) Fi H2 (Mp.wipe ri vs) (L2.wipe σ vs) F3 H3 rc σ2 := g2.trans (g3.wide fun _ z => z.elim)
            have st3 := g23.stay hD2 nf no
            have eσ : L2.wipe σ2 vs = L2.wipe σ vs := by rw [wipeS_ext (σ := L2.wipe σ vs) g2.ln fun j hj => g2.fix j hj, wipe2]
            have noW : ∀ {r'' : En} {σ'' : L2.St}, L2.wipe σ'' vs = L2.wipe σ vs → ¬ Ow r'' σ'' q → ¬ Ow (Mp.wipe r'' vs) (L2.wipe σ vs) q := fun e n w => n (wipe_ow (by rw [e]; exact w))
            cases c with
            | false =>
              cases hf1
              have gn := gi2.trans (g23.wiped (wipe2 σ vs))
              exact ⟨by omega, hlt, F3, r3, accV, accD, rest', gn, st3.1, st3.2.1, noW eσ st3.2.2, by omega, RvA.mono gi2.re.mok g23.ex (ra.sub sub), hl2, by rw [← hacc, ← hr]⟩
            | true =>
              simp only [Option.bind_eq_some_iff, Prod.exists, Option.some.injEq, Prod.mk.injEq] at hf1
              obtain ⟨yv, r5, he1, rfl, rfl⟩ := hf1
              refine ⟨F3, rc, yv, r5, g3.re, he1, fun v H4 F4 g4 rr => ?_⟩
              obtain ⟨F5, g5, rv5⟩ := g4.frz g3.re rr
              have g25 : Go X.K (Wo vs) Fi H2 (Mp.wipe ri vs) (L2.wipe σ vs) F5 H4 r5 σ2 := g23.trans (g5.wide fun _ z => z.elim)
              have st5 := g25.stay hD2 nf no
              refine ⟨accV, st5.1, by rw [← SZ_eq]; have := jo.len; omega, by omega, hlt, F5, r5, accV ++ [v], accD ++ [yv.d], rest', ?_, upd_same, st5.2.1, noW eσ st5.2.2, ?_, ?_, hl2, ?_⟩
              · exact (gi2.trans (g25.wiped (wipe2 σ vs))).updN hq st5.1 trivial trivial st5.2.1 (noW eσ st5.2.2)
              · rw [List.length_append]
                show accV.length + 1 ≤ _
                omega
              · exact RvA.updN ((RvA.mono gi2.re.mok g25.ex (ra.sub sub)).append (.cons rv5 .nil)) st5.1 trivial st5.2.1
              · rw [← hacc, ← hr, List.append_assoc]
                rfl
      · have : i = ds.length := by omega
        subst this
        rw [List.drop_length, lcLoop] at hloop
        cases hloop
        have mk := rew.mok
        rw [List.append_nil] at hacc
        subst hacc
        refine .inl ⟨jo.stop _ _ Fi Hi (Mok_sub mk g1.re) (Ex_sub gi.ex) (Nat.le_refl _), ?_⟩
        have gb := g1.trans (Go.backed g1.re gi)
        exact k _ Hi Fi gb (.of re gb ⟨q, accV, rfl, nf, hD, Nat.le_trans hl jo.len, ra⟩ fun _ a z => by
          cases z
          exact g1.ex.dom q hq)
end
end Mp
end

/-! ## MpEnumT -/
section
set_option linter.all false
set_option maxRecDepth 100000
set_option maxHeartbeats 1000000
/-! Mp: enumerate(t) of a tuple. -/
namespace Mp
open PySem PySem.Spec PyProof.Rows L2
theorem drawsT {prog : Program} {w : World} {A : Around} (hh : A.handled = none) (it l : Addr) (hne : l ≠ it) (items : Array Value) :
    Draws prog w A it [it, l] items.size (fun i v => items[i]? = some v) (fun i h => h.IsTupleIter it l i ∧ h.IsTuple l items) where
  live := fun _ _ st => let ⟨o, ho, _⟩ := st.1; ⟨o, ho⟩
  frame := fun _ _ _ st hk => ⟨st.1.at fun o e => hk it (by simp) o e, let ⟨o, ho, r⟩ := st.2; ⟨o, hk l (by simp) o ho, r⟩⟩
  item := fun i s Q E hi st hQ => by
    refine RZ.nextOf_tuple_item st.1 st.2 (x := items[i]) (by simp [hi]) fun h' hit' hs' => ?_
    exact hQ _ h' s.toks (by simp [hi]) ⟨hit', st.2.extBut hs'.extBut hne⟩ hs'
  done := fun s Q E st hE => RZ.nextOf_tuple_end hh st.1 st.2 (by simp) hE
theorem meets_enumT (l : Addr) (items : Array Value) :
    Meets (Builtin.«enumerate.__new__» ⟨[.type "enumerate", .ref l], []⟩) (fun _ R s => s.heap.IsTuple l items ∧
      R (.ok (.ret (.ref (s.heap.push { cls := .type "tuple_iterator", data := .fields #[.ref l, .int 0 0] }).objs.size)))
        { s with heap := (s.heap.push { cls := .type "tuple_iterator", data := .fields #[.ref l, .int 0 0] }).push { cls := .type "enumerate", data := .fields #[.none, .bool false, .ref s.heap.objs.size, rawInt 0, .none, .none] } }) :=
  .of_wp fun prog w A R s h => by
    obtain ⟨hp, g, d, tk, os⟩ := s; obtain ⟨hl, h⟩ := h
    have hsub := sub_enumerate
    have hL : Heap.IsTuple (Shared.heap ⟨hp, g, d, tk, os⟩) l items := hl
    wp_walk
    refine wpAny_stack_any fun st => wpAny_pure ?_
    split
    · rename_i c _ _ _ _ _
      cases (c == Value.type "enumerate")
      · wp_walk using wpAny_pyIter_tuple hL
        exact ⟨_, rfl, h⟩
      · wp_walk using wpAny_pyIter_tuple hL
        exact ⟨_, rfl, h⟩
    · wp_walk using wpAny_pyIter_tuple hL
      exact ⟨_, rfl, h⟩
section
variable {prog : Program} {w : World} {A : Around} {E : Value → Shared → Prop} {s : Shared}
theorem call_enumT {l : Addr} {items : Array Value} {Q : Value → Shared → Prop} (hl : s.heap.IsTuple l items)
    (h : ∀ h', IsEnum h' (s.heap.objs.size + 1) s.heap.objs.size 0 .none → h'.IsTupleIter s.heap.objs.size l 0 → h'.objs.size = s.heap.objs.size + 2 →
      (∀ b o, s.heap.get? b = some o → h'.get? b = some o) → Q (.ref (s.heap.objs.size + 1)) { s with heap := h' }) :
    wpAny (model prog w) A (call (.type "enumerate") [.ref l]) Q E s := by
  refine callType_new F.called_enumerate (by decide) (F.typeCall_enumerate_1 _) (F.newCall_enumerate_1 _) (fun obj => F.args_object_init_2 obj _) F.entry_enumerate_new
    (meets_enumT l items) ⟨hl, ?_⟩
  have hz : (s.heap.push { cls := .type "tuple_iterator", data := .fields #[.ref l, .int 0 0] }).objs.size = s.heap.objs.size + 1 := Heap.size_push ..
  show _ ∧ _
  rw [hz]
  have he : IsEnum ((s.heap.push { cls := .type "tuple_iterator", data := .fields #[.ref l, .int 0 0] }).push
      { cls := .type "enumerate", data := .fields #[.none, .bool false, .ref s.heap.objs.size, rawInt 0, .none, .none] }) (s.heap.objs.size + 1) s.heap.objs.size 0 .none := by
    have := Heap.get?_push_size (s.heap.push { cls := .type "tuple_iterator", data := .fields #[.ref l, .int 0 0] })
      (o := { cls := .type "enumerate", data := .fields #[.none, .bool false, .ref s.heap.objs.size, rawInt 0, .none, .none] }) rfl
    rw [hz] at this; exact this
  refine ⟨⟨_, he, rfl⟩, h _ he ⟨_, Heap.get?_push_of_some _ (Heap.get?_push_size _ rfl), rfl, rfl⟩ (by rw [Heap.size_push, hz]) fun b o x => Heap.get?_push_of_some _ (Heap.get?_push_of_some _ x)⟩
end
/-- the tuple at a, each item in a new pair -/
def IteT (K : PySem.W.Frag) (a : Addr) : L2.It :=
  ⟨fun i H => ∃ (xs : List V) (x : V), SqT K H a xs ∧ xs[i]? = some x, fun i H v H' => ∃ T x, v = .ref T ∧ H T = none ∧ H' = upd H T (.tup [.int (i : Nat), x]) ∧ ∀ xs, SqT K H a xs → xs[i]? = some x, fun i H => ∃ xs : List V, SqT K H a xs ∧ xs.length ≤ i⟩
theorem turn_enumT {P : Program} {w : World} {K : PySem.W.Frag} {elts : List Expr} {kk : Nat} {tpos : Pos} (a e it : Addr) :
    Turn P w K (.Tuple elts kk tpos) (IteT K a) [e, it] e (fun i h => (∃ old, IsEnum h e it ((i : Nat) : Int) old) ∧ h.IsTupleIter it a i ∧ e ≠ it ∧ a ≠ it ∧ a ≠ e) where
  mem := by simp
  obj := fun i h st b hb => by
    obtain ⟨⟨old, he⟩, ⟨o, ho, hc, hd⟩, _⟩ := st
    have e' : b = e ∨ b = it := by simpa using hb
    rcases e' with z | z
    · rw [z]; exact ⟨_, he, fun v q => nomatch q⟩
    · rw [z]; exact ⟨o, ho, fun v q => by rw [hd] at q; cases q⟩
  keep := fun i h h' st k => let ⟨⟨old, he⟩, hi, hne⟩ := st; ⟨⟨old, k e (by simp) _ he⟩, hi.at fun o q => k it (by simp) o q, hne⟩
  item := by
    intro X hP hw hK hc i pins s σ H E I hf st hg
    subst hP hw hK
    obtain ⟨⟨old, he⟩, hit, hne, hai, hae⟩ := st
    obtain ⟨xs, x, hq, hx⟩ := hg
    obtain ⟨its, rv, p, hz⟩ := I.tuple hq
    obtain ⟨u, hu, ru⟩ := rv.get hx
    have hel : e < s.heap.objs.size := Heap.lt_size he
    have hil : it < s.heap.objs.size := by obtain ⟨_, q, _⟩ := hit; exact Heap.lt_size q
    have hlt : i < its.toArray.size := by
      have := (List.getElem?_eq_some_iff.mp hu).1
      simpa using this
    refine wpAny_pyNext_enum_itemD (drawsT (by simp [I.ok.hd hc]) it a hai its.toArray) he ⟨hit, p⟩ hlt hne (by simp [hne, Ne.symm hae]) fun y h' tk hy ho hit' hT hsz hk => ?_
    obtain rfl : u = y := by
      rw [List.getElem?_toArray, hu] at hy
      exact Option.some.inj hy
    refine ⟨_, rfl, wpAny_letOwnedTupleGo_enum (s := { s with heap := h', toks := tk + 1 }) ho fun h'' he' sb => ?_⟩
    have hT2 : h''.get? s.heap.objs.size = some { cls := .type "tuple", data := .seq #[.int i tk, u] } := (sb.2 _ (Nat.ne_of_gt hel)).trans hT
    have new : ObjOk X.prog X.w (upd H s.heap.objs.size (.tup [.int (i : Nat), x])) h'' s.heap.objs.size (.tup [.int (i : Nat), x]) :=
      ⟨by show 2 ≤ sizeLine; decide, [.int i tk, u], .cons ⟨_, rfl⟩ (.cons ru .nil), ⟨_, hT2, rfl, _, rfl⟩⟩
    have I1 : Inv X pins σ (upd H s.heap.objs.size (.tup [.int (i : Nat), x])) { s with heap := h'', toks := tk + 1 } :=
      I.turnedNew (ch := [e, it]) (fun b ob hb q => (sb.2 b (fun z => hb (by simp [z]))).trans (hk b ob (fun z => hb (by simp [z])) (fun z => hb (by simp [z])) q)) hf (Nat.le_refl _) new
    refine ⟨.ref s.heap.objs.size, _, I1, rfl, ⟨_, x, rfl, I.hok.fresh (Nat.le_refl _), rfl, fun ys hy => by rw [I.tuple_inj hy hq]; exact hx⟩, ⟨⟨u, ?_⟩, hit'.1.at fun o q => (sb.2 it (Ne.symm hne)).trans q, hne, hai, hae⟩, fun b hb => ?_⟩
    · have e1 : ((i + 1 : Nat) : Int) = (i : Int) + 1 := by omega
      rw [e1]; exact he'
    · have hb' : b < s.heap.objs.size := by
        have e' : b = e ∨ b = it := by simpa using hb
        rcases e' with z | z
        · rw [z]; exact hel
        · rw [z]; exact hil
      rw [upd_ne (Nat.ne_of_lt hb')]
      exact (hf b hb).1
  done := by
    intro X hP hw hK hc i pins s σ H E I hf st hg
    subst hP hw hK
    obtain ⟨⟨old, he⟩, hit, hne, hai, hae⟩ := st
    obtain ⟨xs, hq, hx⟩ := hg
    obtain ⟨its, rv, p, hz⟩ := I.tuple hq
    obtain ⟨f0, f1, f2, f3, f4, f5⟩ := hf it (by simp)
    have hl := rv.length
    have hT : s.TypeIs (.ref e) "enumerate" := ⟨_, he, rfl⟩
    unfold pyNext
    refine wpAny_bind (wpAny_attempt (wpAny_callSpecial?_slot (name := Str.ofString "__next__") hT F.slot_enumerate_next
      (wpAny_call_entry F.slot_enumerate_next hT F.entry_enumerate_next ?_ (F.args_enumerate_next_1 _))))
    show wpAny _ _ (field (.ref e) 2 >>= _) _ _ _
    refine wpAny_bind (wpAny_field he rfl (x := .ref it) rfl ?_)
    refine wpAny_bind (RZ.nextOf_tuple_end (by simp [I.ok.hd hc]) hit p (Array.getElem?_eq_none (by rw [List.size_toArray]; omega)) fun h' x he' hx' => ?_)
    obtain ⟨o, ho, hc'⟩ := hx'
    refine wpAny_bind (wpAny_isInstance (T := "StopIteration") (b := true) ⟨o, ho, hc'⟩ isSubtype_stop ?_)
    exact wpAny_pure ⟨rfl, I.turned (t' := s.toks) (fun b o hb q => he' b o hb q) f0 f1 f3 f4 f5⟩
  self := fun A i s Q E st h => let ⟨⟨_, he⟩, _⟩ := st; wpAny_pyIter_enum he h
end Mp
end

/-! ## MpIter -/
section
set_option linter.all false
set_option maxRecDepth 100000
/-! Mp: what is walked. -/
namespace Mp
open PySem PySem.Spec PyProof.Rows L2
section
variable {K : PySem.W.Frag} {F F' F1 : Addr → Prop} {H H' H1 : Hp} {r r' r1 : En} {σ : L2.St} {M : Addr → Prop}
theorem SqT.read {a : Addr} {xs : List V} {X : Cx} (h : SqT K H a xs) : SqT K H a xs := h
theorem FzL.inj {a : Addr} {xs ys : List V} (h : FzL K F H a xs) (k : SqL K H a ys) : SqL K H a xs ∧ SqL K H a ys := ⟨h.sq, k⟩
/-- a frozen list is walked -/
theorem IOk.lst {a : Addr} {ds : List D} (rv : Rv K F H (.ref a) (.list ds)) : IOk K (Itl K a) F H ds := by
  cases rv with
  | lst h1 h2 h3 =>
    rename_i xs
    refine ⟨fun i d M F' H' mk x hd => ?_, fun i d M F' H' v H2 mk x hd y => ?_, fun i M F' H' mk x hd => ?_, by rw [← RvA.length h3]; exact h2⟩
    · obtain ⟨v, e, _⟩ := h3.get hd
      exact ⟨xs, v, (h1.mono mk x).sq, e⟩
    · obtain ⟨rfl, y⟩ := y
      obtain ⟨u, e, rv⟩ := (RvA.mono mk x h3).get hd
      have := y xs (h1.mono mk x).sq
      rw [e] at this
      cases this
      exact ⟨.refl, rv⟩
    · exact ⟨xs, (h1.mono mk x).sq, by rw [RvA.length h3]; exact hd⟩
theorem IOk.tup {a : Addr} {ds : List D} (rv : Rv K F H (.ref a) (.tuple ds)) : IOk K (Itt K a) F H ds := by
  cases rv with
  | tup h1 h2 h3 =>
    rename_i xs
    refine ⟨fun i d M F' H' mk x hd => ?_, fun i d M F' H' v H2 mk x hd y => ?_, fun i M F' H' mk x hd => ?_, by rw [← RvA.length h3]; exact h2⟩
    · obtain ⟨v, e, _⟩ := h3.get hd
      exact ⟨xs, v, SqT.mono mk x h1, e⟩
    · obtain ⟨rfl, y⟩ := y
      obtain ⟨u, e, rv⟩ := (RvA.mono mk x h3).get hd
      have := y xs (SqT.mono mk x h1)
      rw [e] at this
      cases this
      exact ⟨.refl, rv⟩
    · exact ⟨xs, SqT.mono mk x h1, by rw [RvA.length h3]; exact hd⟩
theorem strL_get {x : Str} {i : Nat} {d : D} (h : (strL x)[i]? = some d) : ∃ c, x.cps.toList[i]? = some c ∧ d = .str ⟨#[c]⟩ := by
  unfold strL at h
  rw [List.getElem?_map, Option.map_eq_some_iff] at h
  obtain ⟨c, e, rfl⟩ := h
  exact ⟨c, e, rfl⟩
theorem IOk.str {x : Str} (so : PyData.strOk x = true) (sz : x.length ≤ SZ) : IOk K (Its x) F H (strL x) := by
  have len : (strL x).length = x.cps.size := by
    unfold strL
    rw [List.length_map, Array.length_toList]
  refine ⟨fun i d M F' H' mk e hd => ?_, fun i d M F' H' v H2 mk e hd y => ?_, fun i M F' H' mk e hd => by rw [len] at hd; exact hd, by rw [len]; exact sz⟩
  · have := (List.getElem?_eq_some_iff.mp hd).1
    rw [len] at this
    exact this
  · obtain ⟨rfl, c, hc, rfl⟩ := y
    obtain ⟨c', e1, rfl⟩ := strL_get hd
    have : x.cps.toList[i]? = some c := by rw [Array.getElem?_toList]; exact hc
    rw [e1] at this
    cases this
    exact ⟨.refl, .str _ (strOk_one so e1) (by show 1 ≤ SZ; decide)⟩
theorem rngD_len (lo hi : Int) : (rngD lo hi).length = (hi - lo).toNat := by simp [rngD]
theorem IOk.rng {lo hi : Int} (h : (hi - lo).toNat ≤ SZ) : IOk K (Itr lo (hi - lo).toNat) F H (rngD lo hi) := by
  refine ⟨fun i d M F' H' mk x hd => ?_, fun i d M F' H' v H2 mk x hd y => ?_, fun i M F' H' mk x hd => by rw [rngD_len] at hd; exact hd, by rw [rngD_len]; exact h⟩
  · have := (List.getElem?_eq_some_iff.mp hd).1
    rw [rngD_len] at this
    exact this
  · obtain ⟨rfl, rfl⟩ := y
    have hlt := (List.getElem?_eq_some_iff.mp hd).1
    rw [rngD_len] at hlt
    have e : (rngD lo hi)[i]? = some (.int (lo + i)) := by
      unfold rngD
      rw [List.getElem?_map, List.getElem?_range hlt]
      rfl
    rw [e] at hd
    cases hd
    exact ⟨.refl, .int _⟩
theorem enmD_get : ∀ {ds : List D} {n i : Nat} {d : D}, (enmD ds n)[i]? = some d → ∃ x, ds[i]? = some x ∧ d = .tuple [.int ((n + i : Nat) : Int), x]
  | [], _, _, _, h => by simp [enmD] at h
  | x :: ds, n, 0, d, h => by
    simp [enmD] at h
    subst h
    exact ⟨x, rfl, rfl⟩
  | x :: ds, n, i + 1, d, h => by
    have h' : (enmD ds (n + 1))[i]? = some d := by simpa [enmD] using h
    obtain ⟨y, e, rfl⟩ := enmD_get h'
    exact ⟨y, by simpa using e, by rw [show n + 1 + i = n + (i + 1) from by omega]⟩
theorem enmD_len : ∀ (ds : List D) (n : Nat), (enmD ds n).length = ds.length
  | [], _ => rfl
  | _ :: ds, n => congrArg Nat.succ (enmD_len ds (n + 1))
theorem IOk.enm {a : Addr} {ds : List D} (rv : Rv K F H (.ref a) (.list ds)) : IOk K (Ite K a) F H (enmD ds 0) := by
  cases rv with
  | lst h1 h2 h3 =>
    rename_i xs
    refine ⟨fun i d M F' H' mk x hd => ?_, fun i d M F' H' v H2 mk x hd y => ?_, fun i M F' H' mk x hd => ?_, by rw [enmD_len, ← RvA.length h3]; exact h2⟩
    · obtain ⟨y, e, _⟩ := enmD_get hd
      obtain ⟨v, e, _⟩ := h3.get e
      exact ⟨xs, v, (h1.mono mk x).sq, e⟩
    · obtain ⟨T, u, rfl, hT, rfl, y⟩ := y
      obtain ⟨z, e, rfl⟩ := enmD_get hd
      obtain ⟨w, e2, rv⟩ := (RvA.mono mk x h3).get e
      have := y xs (h1.mono mk x).sq
      rw [e2] at this
      cases this
      refine ⟨.new hT, .tup (.of upd_same) (by show 2 ≤ SZ; decide) (.cons ?_ (.cons (rv.sub (.new hT)) .nil))⟩
      rw [Nat.zero_add]
      exact .int _
    · exact ⟨xs, (h1.mono mk x).sq, by rw [RvA.length h3, ← enmD_len ds 0]; exact hd⟩
theorem IOk.enmT {a : Addr} {ds : List D} (rv : Rv K F H (.ref a) (.tuple ds)) : IOk K (IteT K a) F H (enmD ds 0) := by
  cases rv with
  | tup h1 h2 h3 =>
    rename_i xs
    refine ⟨fun i d M F' H' mk x hd => ?_, fun i d M F' H' v H2 mk x hd y => ?_, fun i M F' H' mk x hd => ?_, by rw [enmD_len, ← RvA.length h3]; exact h2⟩
    · obtain ⟨y, e, _⟩ := enmD_get hd
      obtain ⟨v, e, _⟩ := h3.get e
      exact ⟨xs, v, SqT.mono mk x h1, e⟩
    · obtain ⟨T, u, rfl, hT, rfl, y⟩ := y
      obtain ⟨z, e, rfl⟩ := enmD_get hd
      obtain ⟨w, e2, rv⟩ := (RvA.mono mk x h3).get e
      have := y xs (SqT.mono mk x h1)
      rw [e2] at this
      cases this
      refine ⟨.new hT, .tup (.of upd_same) (by show 2 ≤ SZ; decide) (.cons ?_ (.cons (rv.sub (.new hT)) .nil))⟩
      rw [Nat.zero_add]
      exact .int _
    · exact ⟨xs, SqT.mono mk x h1, by rw [RvA.length h3, ← enmD_len ds 0]; exact hd⟩
theorem zipD_get : ∀ {xs ys : List D} {i : Nat} {d : D}, (zipD xs ys)[i]? = some d → ∃ x y, xs[i]? = some x ∧ ys[i]? = some y ∧ d = .tuple [x, y]
  | [], _, _, _, h => by simp [zipD] at h
  | _ :: _, [], _, _, h => by simp [zipD] at h
  | x :: xs, y :: ys, 0, d, h => by
    simp [zipD] at h
    subst h
    exact ⟨x, y, rfl, rfl, rfl⟩
  | x :: xs, y :: ys, i + 1, d, h => by
    have h' : (zipD xs ys)[i]? = some d := by simpa [zipD] using h
    obtain ⟨u, v, e1, e2, e3⟩ := zipD_get h'
    exact ⟨u, v, by simpa using e1, by simpa using e2, e3⟩
theorem zipD_len : ∀ (xs ys : List D), (zipD xs ys).length = min xs.length ys.length
  | [], _ => by simp [zipD]
  | _ :: _, [] => by simp [zipD]
  | x :: xs, y :: ys => by
    simp only [zipD, List.length_cons, zipD_len xs ys]
    omega
theorem IOk.zipL {a b : Addr} {ds es : List D} (rv : Rv K F H (.ref a) (.list ds)) (rw_ : Rv K F H (.ref b) (.list es)) : IOk K (Itz K a b) F H (zipD ds es) := by
  cases rv with
  | lst h1 h2 h3 =>
    rename_i xs
    cases rw_ with
    | lst k1 k2 k3 =>
      rename_i ys
      refine ⟨fun i d M F' H' mk x hd => ?_, fun i d M F' H' v H2 mk x hd y => ?_, fun i M F' H' mk x hd => ?_, by rw [zipD_len, ← RvA.length h3]; omega⟩
      · obtain ⟨u, v, e1, e2, _⟩ := zipD_get hd
        obtain ⟨u', e1, _⟩ := h3.get e1
        obtain ⟨v', e2, _⟩ := k3.get e2
        exact ⟨xs, ys, u', v', (h1.mono mk x).sq, (k1.mono mk x).sq, e1, e2⟩
      · obtain ⟨T, p, q, rfl, hT, rfl, y1, y2⟩ := y
        obtain ⟨u, v, e1, e2, rfl⟩ := zipD_get hd
        obtain ⟨u', e1, r1⟩ := (RvA.mono mk x h3).get e1
        obtain ⟨v', e2, r2⟩ := (RvA.mono mk x k3).get e2
        have t1 := y1 xs (h1.mono mk x).sq
        have t2 := y2 ys (k1.mono mk x).sq
        rw [e1] at t1
        rw [e2] at t2
        cases t1
        cases t2
        exact ⟨.new hT, .tup (.of upd_same) (by show 2 ≤ SZ; decide) (.cons (r1.sub (.new hT)) (.cons (r2.sub (.new hT)) .nil))⟩
      · refine ⟨xs, ys, (h1.mono mk x).sq, (k1.mono mk x).sq, ?_⟩
        rw [RvA.length h3, RvA.length k3]
        rw [zipD_len] at hd
        omega
theorem IOk.zipT {a b : Addr} {ds es : List D} (rv : Rv K F H (.ref a) (.tuple ds)) (rw_ : Rv K F H (.ref b) (.tuple es)) : IOk K (RZ.ItzT K a b) F H (zipD ds es) := by
  cases rv with
  | tup h1 h2 h3 =>
    rename_i xs
    cases rw_ with
    | tup k1 k2 k3 =>
      rename_i ys
      refine ⟨fun i d M F' H' mk x hd => ?_, fun i d M F' H' v H2 mk x hd y => ?_, fun i M F' H' mk x hd => ?_, by rw [zipD_len, ← RvA.length h3]; omega⟩
      · obtain ⟨u, v, e1, e2, _⟩ := zipD_get hd
        obtain ⟨u', e1, _⟩ := h3.get e1
        obtain ⟨v', e2, _⟩ := k3.get e2
        exact ⟨xs, ys, u', v', SqT.mono mk x h1, SqT.mono mk x k1, e1, e2⟩
      · obtain ⟨T, p, q, rfl, hT, rfl, y1, y2⟩ := y
        obtain ⟨u, v, e1, e2, rfl⟩ := zipD_get hd
        obtain ⟨u', e1, r1⟩ := (RvA.mono mk x h3).get e1
        obtain ⟨v', e2, r2⟩ := (RvA.mono mk x k3).get e2
        have t1 := y1 xs (SqT.mono mk x h1)
        have t2 := y2 ys (SqT.mono mk x k1)
        rw [e1] at t1
        rw [e2] at t2
        cases t1
        cases t2
        exact ⟨.new hT, .tup (.of upd_same) (by show 2 ≤ SZ; decide) (.cons (r1.sub (.new hT)) (.cons (r2.sub (.new hT)) .nil))⟩
      · refine ⟨xs, ys, SqT.mono mk x h1, SqT.mono mk x k1, ?_⟩
        rw [RvA.length h3, RvA.length k3]
        rw [zipD_len] at hd
        omega
/-- an operand that is walked is frozen -/
theorem RA.frzX (re : RE K F H r σ) (g : GoE K F H r σ F1 H1 r1) {x : Ar} {v : V} {o : O} (ra : RA K F1 H1 r1 σ H x v) (e : rdA r1 x = some o) : ∃ F2, GoE K F H r σ F2 H1 (frA r1 x) ∧ Rv K F2 H1 v o.d ∧ FrzTo F1 F2 H1 := by
  cases x with
  | v u =>
    cases e
    exact g.frzX re ra
  | s i =>
    have e' : r1.at i = some o := e
    obtain ⟨F2, w, e1, g2, rv, f⟩ := g.re.frzAtX e'
    rw [show σ[i]? = some (some v) from ra] at e1
    cases e1
    refine ⟨F2, ?_, rv, f⟩
    have : frA r1 (.s i) = r1.set i (some (.v o.d)) := by
      show (match r1.at i with
        | some o => r1.set i (some (.v o.d))
        | none => r1) = _
      rw [e']
    rw [this]
    exact g.trans g2
theorem RA.frz (re : RE K F H r σ) (g : GoE K F H r σ F1 H1 r1) {x : Ar} {v : V} {o : O} (ra : RA K F1 H1 r1 σ H x v) (e : rdA r1 x = some o) : ∃ F2, GoE K F H r σ F2 H1 (frA r1 x) ∧ Rv K F2 H1 v o.d :=
  let ⟨F2, a, b, _⟩ := RA.frzX re g ra e
  ⟨F2, a, b⟩
theorem frA_own {r : En} {x : Ar} {a : Addr} (w : Ow (frA r x) σ a) : Ow r σ a := by
  cases x with
  | v u => exact w
  | s i =>
    obtain ⟨j, o, h1, h2, h3⟩ := w
    cases q : r.at i with
    | none =>
      have : frA r (.s i) = r := by
        show (match r.at i with
          | some o => r.set i (some (.v o.d))
          | none => r) = _
        rw [q]
      rw [this] at h1
      exact ⟨j, o, h1, h2, h3⟩
    | some p =>
      have : frA r (.s i) = r.set i (some (.v p.d)) := by
        show (match r.at i with
          | some o => r.set i (some (.v o.d))
          | none => r) = _
        rw [q]
      rw [this, at_set] at h1
      split at h1
      · cases h1
        cases h2
      · exact ⟨j, o, h1, h2, h3⟩
theorem frA_at {r : En} {x : Ar} {y : Ar} {p : O} (h : rdA r y = some p) : ∃ p', rdA (frA r x) y = some p' ∧ p'.d = p.d := by
  cases y with
  | v u =>
    cases h
    exact ⟨_, rfl, rfl⟩
  | s j =>
    cases x with
    | v u => exact ⟨p, h, rfl⟩
    | s i =>
      have h' : r.at j = some p := h
      show ∃ p', En.at (match r.at i with
        | some o => r.set i (some (.v o.d))
        | none => r) j = some p' ∧ _
      cases q : r.at i with
      | none => exact ⟨p, h', rfl⟩
      | some o =>
        rw [at_set]
        by_cases c : i = j
        · subst c
          rw [h'] at q
          cases q
          rw [if_pos ⟨rfl, at_lt h'⟩]
          exact ⟨_, rfl, rfl⟩
        · rw [if_neg fun z => c z.1]
          exact ⟨p, h', rfl⟩
/-- two operands that are walked -/
theorem RA.frz2 (re : RE K F H r σ) (g : GoE K F H r σ F1 H1 r1) {x y : Ar} {v u : V} {o p : O} (ra : RA K F1 H1 r1 σ H x v) (rb : RA K F1 H1 r1 σ H y u) (e1 : rdA r1 x = some o) (e2 : rdA r1 y = some p) :
    ∃ F2, GoE K F H r σ F2 H1 (frA (frA r1 x) y) ∧ Rv K F2 H1 v o.d ∧ Rv K F2 H1 u p.d := by
  obtain ⟨F2, g2, rv, f2⟩ := RA.frzX re g ra e1
  obtain ⟨p', e3, hd⟩ := frA_at (x := x) e2
  cases y with
  | v q =>
    cases e2
    cases e3
    rcases f2.ro rb.1 with h | h
    · obtain ⟨F3, g3, rv3, f3⟩ := RA.frzX (x := .v p) re g2 ⟨h, fun w a z => ⟨(rb.2 w a z).1, fun k => (rb.2 w a z).2 (frA_own k)⟩⟩ rfl
      exact ⟨F3, g3, f3.rv rv, rv3⟩
    · exact ⟨F2, g2, rv, h⟩
  | s j =>
    obtain ⟨F3, g3, rv3, f3⟩ := RA.frzX (x := .s j) re g2 rb e3
    rw [hd] at rv3
    exact ⟨F3, g3, f3.rv rv, rv3⟩
theorem seqD_d {o : O} {ds : List D} (e : seqD o = some ds) : o.d = .list ds ∨ o.d = .tuple ds := by
  cases o with
  | v d =>
    cases d with
    | list ys =>
      cases e
      exact .inl rfl
    | tuple ys =>
      cases e
      exact .inr rfl
    | _ => cases e
  | lst ys =>
    cases e
    exact .inl rfl
  | dct ys => cases e
theorem lstO_d {o : O} {ds : List D} (e : lstO o = some ds) : o.d = .list ds := by
  cases o with
  | v d =>
    cases d with
    | list ys =>
      cases e
      rfl
    | _ => cases e
  | lst ys =>
    cases e
    rfl
  | dct ys => cases e
theorem tupO_d {o : O} {ds : List D} (e : tupO o = some ds) : o.d = .tuple ds := by
  cases o with
  | v d =>
    cases d with
    | tuple ys =>
      cases e
      rfl
    | _ => cases e
  | lst ys => cases e
  | dct ys => cases e
end
section
variable {X : Cx} {g : Ga} {tg e a b : Expr} {x y : CE} {pos p : Pos}
theorem pi_sq' (he : PE X e (TDA X.K fun r => arB x (ev g x r) r)) : PI X tg e (TIm X.K (evit g (.sq x))) := by
  refine ⟨fun pins s σ H R I ⟨F, r, ds, r', re, h, k⟩ => ?_⟩
  simp only [evit, Option.bind_eq_bind, Option.bind_eq_some_iff, Prod.exists] at h
  obtain ⟨u, r1, h1, o, h2, ds', h3, h4⟩ := h
  cases h4
  unfold itO at h3
  split at h3
  · rename_i z
    cases h3
    refine (pi_str he).run pins s σ H R I ⟨F, r, u, r1, re, h1, fun v H1 F1 g1 ra => ?_⟩
    obtain ⟨F2, g2, rv⟩ := ra.frz re g1 h2
    obtain ⟨rfl, so, sz⟩ := Rv.strE rv
    exact ⟨z, rfl, k _ H1 F2 g2 (.str so sz)⟩
  · rcases seqD_d h3 with hd | hd
    · refine (pi_list he).run pins s σ H R I ⟨F, r, u, r1, re, h1, fun v H1 F1 g1 ra => ?_⟩
      obtain ⟨F2, g2, rv⟩ := ra.frz re g1 h2
      rw [hd] at rv
      have rv' := rv
      cases rv with
      | lst h1 h2 h3 => exact ⟨_, rfl, ⟨_, h1.sq⟩, k _ H1 F2 g2 (.lst rv')⟩
    · refine (pi_tup he).run pins s σ H R I ⟨F, r, u, r1, re, h1, fun v H1 F1 g1 ra => ?_⟩
      obtain ⟨F2, g2, rv⟩ := ra.frz re g1 h2
      rw [hd] at rv
      have rv' := rv
      cases rv with
      | tup h1 h2 h3 => exact ⟨_, rfl, ⟨_, h1⟩, k _ H1 F2 g2 (.tup rv')⟩
/-- an int that a reading gives -/
theorem pa_two (ha : PE X a (TD X.K (ev g x))) (hb : PE X b (TD X.K (ev g y))) (n1 : notStar a = true) (n2 : notStar b = true) : PA X [a, b] (TV X.K (evs g [x, y])) := pa_v1 ha (pa_v1 hb pa_v0 n2) n1
theorem pi_rng2 (hg : Gl X "range") (hm : X.mg "range" = none) (ha : PE X a (TD X.K (ev g x))) (hb : PE X b (TD X.K (ev g y))) (n1 : notStar a = true) (n2 : notStar b = true) : PI X tg (.Call (.Name "range" p) [a, b] [] pos) (TIm X.K (evit g (.rng x y))) :=
  wkI (pi_range2 hg hm (pa_two ha hb n1 n2) (by rw [star_cons n1, star_cons n2]; rfl) (by rw [star_cons n2]; rfl)) fun σ H R ⟨F, r, ds, r', re, h, k⟩ => by
    simp only [evit, Option.bind_eq_bind, Option.bind_eq_some_iff, Prod.exists] at h
    obtain ⟨u, r1, h1, i, h2, w, r2, h3, j, h4, h5⟩ := h
    split at h5
    · rename_i hc
      cases h5
      simp only [Bool.and_eq_true, decide_eq_true_eq] at hc
      unfold intO at h2 h4
      split at h2
      · cases h2
        split at h4
        · cases h4
          refine ⟨F, r, [.int i, .int j], r', re, ?_, fun vs H1 F1 g1 rvs => ?_⟩
          · simp [evs, h1, h3, O.d]
          · cases rvs with
            | cons q1 q2 =>
              cases q2 with
              | cons q3 q4 =>
                cases q4
                cases Rv.intE q1
                cases Rv.intE q3
                exact ⟨i, j, rfl, ⟨hc.1.1.1.1, hc.1.1.1.2, hc.1.1.2, hc.1.2⟩, k _ H1 F1 g1 (.rng hc.2)⟩
        · cases h4
      · cases h2
    · cases h5
theorem pi_rng1 (hg : Gl X "range") (hm : X.mg "range" = none) (ha : PE X a (TD X.K (ev g x))) (n1 : notStar a = true) : PI X tg (.Call (.Name "range" p) [a] [] pos) (TIm X.K (evit g (.rng (.cst (.int 0)) x))) :=
  wkI (pi_range1 hg hm (pa_v1 ha pa_v0 n1) (by rw [star_cons n1]; rfl)) fun σ H R ⟨F, r, ds, r', re, h, k⟩ => by
    simp only [evit, Option.bind_eq_bind, Option.bind_eq_some_iff, Prod.exists] at h
    obtain ⟨u, r1, h1, i, h2, w, r2, h3, j, h4, h5⟩ := h
    rw [ev] at h1
    cases h1
    cases h2
    split at h5
    · rename_i hc
      cases h5
      simp only [Bool.and_eq_true, decide_eq_true_eq] at hc
      unfold intO at h4
      split at h4
      · cases h4
        refine ⟨F, r, [.int j], r', re, ?_, fun vs H1 F1 g1 rvs => ?_⟩
        · simp [evs, h3, O.d]
        · cases rvs with
          | cons q1 q2 =>
            cases q2
            cases Rv.intE q1
            refine ⟨j, rfl, hc.1.1.2, hc.1.2, ?_⟩
            have := k (Itr 0 (j - 0).toNat) H1 F1 g1 (.rng hc.2)
            rw [Int.sub_zero] at this
            exact this
      · cases h4
    · cases h5
theorem seqD_dd {o : O} {xs : List D} (h : seqD o = some xs) : o.d = .list xs ∨ o.d = .tuple xs := by
  unfold seqD at h
  split at h <;> cases h
  · exact .inl rfl
  · exact .inl rfl
  · exact .inr rfl
/-- enumerate of a list or a tuple -/
def iEnumA (K : PySem.W.Frag) (ta : TA) : TI := fun σ H R => ta σ H fun vs H1 => ∃ a xs, vs = [.ref a] ∧ ((SqL K H1 a xs ∧ R (Ite K a) H1) ∨ (SqT K H1 a xs ∧ R (IteT K a) H1))
theorem pi_enumA {e : Expr} {ta : TA} {p pos tpos : Pos} {elts : List Expr} {kk : Nat} (hg : Gl X "enumerate") (hm : X.mg "enumerate" = none) (ha : PA X [e] ta) (hs : starEach [e] X.env = [(false, eval e X.env)] := by rfl) :
    PI X (.Tuple elts kk tpos) (.Call (.Name "enumerate" p) [e] [] pos) (iEnumA X.K ta) := by
  refine ⟨fun pins s σ H R I h => ?_⟩
  refine Call_ (ld_blt I hg hm PyProof.Rows.boot_enumerate (PyProof.Rows.callWith_type1 (thn (ha.run pos pins s σ H _ I h) fun us s1 ⟨vs, H1, I1, r1, q1⟩ => ?_) hs rfl))
  obtain ⟨a, xs, ex, hq⟩ := q1
  subst ex
  cases r1 with
  | cons r rr =>
    cases rr
    cases r
    have fp : ∀ b ∈ ([s1.heap.objs.size + 1, s1.heap.objs.size] : List Nat), FpOk X pins H1 b := fun b hb => by
      have e' : b = s1.heap.objs.size + 1 ∨ b = s1.heap.objs.size := by simpa using hb
      have hle : s1.heap.objs.size ≤ b := by
        rcases e' with z | z
        · rw [z]; exact Nat.le_add_right _ _
        · rw [z]; exact Nat.le_refl _
      exact I1.fpOk hle (I1.hok.fresh hle)
    rcases hq with ⟨hq, q⟩ | ⟨hq, q⟩
    · obtain ⟨its, rv, p', hz⟩ := I1.list hq
      refine call_enumerate_list p'.isList fun h' he hit hsz hk => wpAny_pyIter_enum he ?_
      have I2 : Inv X pins σ H1 { s1 with heap := h' } := I1.kept (t' := s1.toks) hk
      exact ⟨s1.heap.objs.size + 1, [s1.heap.objs.size + 1, s1.heap.objs.size], _, _, H1, rfl, I2, turn_enum a (s1.heap.objs.size + 1) s1.heap.objs.size, ⟨⟨.none, he⟩, hit, Nat.succ_ne_self _⟩, fp, q⟩
    · obtain ⟨its, rv, p', hz⟩ := I1.tuple hq
      have lt : @LT.lt Nat _ a s1.heap.objs.size := let ⟨_, ho, _⟩ := p'; Heap.lt_size ho
      refine call_enumT (show s1.heap.IsTuple a its.toArray from p') fun h' he hit hsz hk => wpAny_pyIter_enum he ?_
      have I2 : Inv X pins σ H1 { s1 with heap := h' } := I1.kept (t' := s1.toks) hk
      exact ⟨s1.heap.objs.size + 1, [s1.heap.objs.size + 1, s1.heap.objs.size], _, _, H1, rfl, I2, turn_enumT a (s1.heap.objs.size + 1) s1.heap.objs.size, ⟨⟨.none, he⟩, hit, Nat.succ_ne_self _, Nat.ne_of_lt lt, Nat.ne_of_lt (Nat.lt_succ_of_lt lt)⟩, fp, q⟩
theorem pi_enm' {elts : List Expr} {kk : Nat} {tpos : Pos} (hg : Gl X "enumerate") (hm : X.mg "enumerate" = none) (ha : PE X a (TDA X.K fun r => arB x (ev g x r) r)) (n1 : notStar a = true) :
    PI X (.Tuple elts kk tpos) (.Call (.Name "enumerate" p) [a] [] pos) (TIm X.K (evit g (.enm x))) :=
  wkI (pi_enumA hg hm (pa_a1 (xs := []) ha pa_a0 n1) (by rw [star_cons n1]; rfl)) fun σ H R ⟨F, r, ds, r', re, h, k⟩ => by
    simp only [evit, Option.bind_eq_bind, Option.bind_eq_some_iff, Prod.exists] at h
    obtain ⟨u, r1, h1, o, h2, ds', h3, h4⟩ := h
    cases h4
    refine ⟨F, r, [u], r1, re, by simp [evas, h1], fun vs H1 F1 g1 ras => ?_⟩
    cases ras with
    | cons q1 q2 =>
      cases q2
      obtain ⟨F2, g2, rv⟩ := q1.frz re g1 h2
      rcases seqD_dd h3 with e | e
      · rw [e] at rv
        have rv' := rv
        cases rv with
        | lst p1 p2 p3 => exact ⟨_, _, rfl, .inl ⟨p1.sq, k _ H1 F2 g2 (.enm rv')⟩⟩
      · rw [e] at rv
        have rv' := rv
        cases rv with
        | tup p1 p2 p3 => exact ⟨_, _, rfl, .inr ⟨p1, k _ H1 F2 g2 (.enmT rv')⟩⟩
theorem pi_zip' {elts : List Expr} {kk : Nat} {tpos : Pos} (hg : Gl X "zip") (hm : X.mg "zip" = none) (ha : PE X a (TDA X.K fun r => arB x (ev g x r) r)) (hb : PE X b (TDA X.K fun r => arB y (ev g y r) r)) (n1 : notStar a = true) (n2 : notStar b = true) :
    PI X (.Tuple elts kk tpos) (.Call (.Name "zip" p) [a, b] [] pos) (TIm X.K (evit g (.zip x y))) :=
  wkI (RZ.pi_zipA hg hm (pa_a1 (xs := [y]) ha (pa_a1 (xs := []) hb pa_a0 n2) n1) (star_cons n1) (star_any (by rw [List.all_cons, n2]; rfl))) fun σ H R ⟨F, r, ds, r', re, h, k⟩ => by
    simp only [evit, Option.bind_eq_bind, Option.bind_eq_some_iff, Prod.exists] at h
    obtain ⟨u, r1, h1, w, r2, h2, o, h3, q, h4, zs, h5, h6⟩ := h
    cases h6
    refine ⟨F, r, [u, w], r2, re, by simp [evas, h1, h2], fun vs H1 F1 g1 ras => ?_⟩
    cases ras with
    | cons q1 q2 =>
      cases q2 with
      | cons q2 q3 =>
        cases q3
        obtain ⟨F2, g2, rv1, rv2⟩ := RA.frz2 re g1 q1 q2 h3 h4
        unfold zipO at h5
        split at h5
        · rename_i xs ys e1 e2
          cases h5
          rw [lstO_d e1] at rv1
          rw [lstO_d e2] at rv2
          have rv1' := rv1
          have rv2' := rv2
          cases rv1 with
          | lst p1 p2 p3 =>
            cases rv2 with
            | lst k1 k2 k3 => exact ⟨_, _, _, _, rfl, .inl ⟨p1.sq, k1.sq, k _ H1 F2 g2 (.zipL rv1' rv2')⟩⟩
        · split at h5
          · rename_i xs ys e1 e2
            cases h5
            rw [tupO_d e1] at rv1
            rw [tupO_d e2] at rv2
            have rv1' := rv1
            have rv2' := rv2
            cases rv1 with
            | tup p1 p2 p3 =>
              cases rv2 with
              | tup k1 k2 k3 => exact ⟨_, _, _, _, rfl, .inr ⟨p1, k1, k _ H1 F2 g2 (.zipT rv1' rv2')⟩⟩
          · cases h5
end
end Mp
end

/-! ## MpCall -/
section
set_option linter.all false
set_option maxRecDepth 100000
/-! Mp: a def's promise, its call. -/
namespace Mp
open PySem PySem.Spec PyProof.Rows L2
section
variable {K : PySem.W.Frag} {F F' F1 : Addr → Prop} {H H' H1 : Hp} {r r' r1 : En} {σ σ' σ1 : L2.St}
/-- how a call ends -/
structure Ended (K : PySem.W.Frag) (F : Addr → Prop) (H : Hp) (os : List O) (vs : List V) (F' : Addr → Prop) (H' : Hp) (os' : List O) (o : O) (v : V) : Prop where
  ex : Ex (Ow (os.map some) (vs.map some)) F H F' H'
  dom : Dom F' H'
  outs : ∀ (k : Nat) (o1 : O), os[k]? = some o1 → isOwn o1 = true → ∃ q u, os'[k]? = some q ∧ vs[k]? = some u ∧ RO K F' H' q u
  ret : RO K F' H' o v
  new : isOwn o = true → ∀ a, v = .ref a → H a = none
/-- a def's promise -/
def spOf (K : PySem.W.Frag) (np : Nat) (sem : List O → Option (O × List O)) : Sp := fun vs H Q _ => vs.length = np ∧ ∃ F os o os', RE K F H (os.map some) (vs.map some) ∧ sem os = some (o, os') ∧ ∀ v H' F', Ended K F H os vs F' H' os' o v → Q v H'
/-! ### the arguments -/
/-- what is handed: pure, or a slot's -/
inductive HA (K : PySem.W.Frag) (F : Addr → Prop) (H : Hp) (r : En) (σ : L2.St) : List Ar → List V → Prop
  | nil : HA K F H r σ [] []
  | v {d : D} {v : V} {as : List Ar} {vs : List V} : Rv K F H v d → HA K F H r σ as vs → HA K F H r σ (.v (.v d) :: as) (v :: vs)
  | s {i : Nat} {v : V} {as : List Ar} {vs : List V} : σ[i]? = some (some v) → HA K F H r σ as vs → HA K F H r σ (.s i :: as) (v :: vs)
theorem HA.go (e : RE K F H r σ) {as : List Ar} {vs : List V} (h : HA K F H r σ as vs) (g : GoE K F H r σ F' H' r') : HA K F' H' r' σ as vs := by
  induction h with
  | nil => exact .nil
  | v h1 _ ih => exact .v (h1.mono e.mok g.ex) ih
  | s h1 _ ih => exact .s h1 ih
def TAc (K : PySem.W.Frag) (f : En → Option (List Ar × En)) : TA := fun σ H Q => ∃ F r as r', RE K F H r σ ∧ f r = some (as, r') ∧ ∀ vs H' F', GoE K F H r σ F' H' r' → HA K F' H' r' σ as vs → Q vs H'
end
section
variable {X : Cx} {e : Expr} {es : List Expr} {x : CE} {xs : List CE} {g : Ga}
theorem pa_c0 : PA X [] (TAc X.K (evac g [])) := wkA pa_nil fun σ H Q ⟨F, r, ds, r', re, he, k⟩ => by
  rw [evac] at he
  cases he
  exact k [] H F (.refl re) .nil
theorem pa_c1 (he : PE X e (TD X.K (ev g x))) (hv : ∀ i, x = .nm i → PE X e (tVar i)) (hs : PA X es (TAc X.K (evac g xs))) (n : notStar e = true) : PA X (e :: es) (TAc X.K (evac g (x :: xs))) := by
  by_cases hx : ∃ i, x = .nm i
  · obtain ⟨i, rfl⟩ := hx
    refine wkA (pa_cons (hv i rfl) hs (star_cons n)) fun σ H Q ⟨F, r, ds, r', re, h, k⟩ => ?_
    simp only [evac, arC, Option.bind_eq_bind, Option.bind_eq_some_iff, Prod.exists] at h
    obtain ⟨a, r1, h1, as, r2, h2, h3⟩ := h
    cases h3
    cases q : r.at i with
    | none =>
      rw [q] at h1
      cases h1
    | some p =>
      rw [q] at h1
      cases h1
      obtain ⟨v, e1, ro⟩ := re.val i p q
      exact ⟨v, e1, F, r, as, r', re, h2, fun vs H1 F1 g1 ha => k (v :: vs) H1 F1 g1 (.s e1 ha)⟩
  · refine wkA (pa_cons he hs (star_cons n)) fun σ H Q ⟨F, r, ds, r', re, h, k⟩ => ?_
    have ea : ∀ q, arC x q r = q.map fun p => (.v (.v p.1.d), p.2) := fun q => by
      unfold arC
      split
      · exact absurd ⟨_, rfl⟩ hx
      · cases q with
        | none => rfl
        | some p => rfl
    simp only [evac, ea, Option.bind_eq_bind, Option.bind_eq_some_iff, Prod.exists, Option.map_eq_some_iff] at h
    obtain ⟨a, r1, ⟨o, r3, h1, h1'⟩, as, r2, h2, h3⟩ := h
    cases h1'
    cases h3
    refine ⟨F, r, o, r1, re, h1, fun v H1 F1 g1 rr => ?_⟩
    obtain ⟨F2, g2, rv⟩ := g1.frz re rr
    exact ⟨F2, r1, as, r', g2.re, h2, fun vs H3 F3 g3 ha => k (v :: vs) H3 F3 (g2.trans g3) (.v (rv.mono g2.re.mok g3.ex) ha)⟩
end
section
variable {K : PySem.W.Frag} {F F' F1 : Addr → Prop} {H H' H1 : Hp} {r r' r1 : En} {σ σ' σ1 : L2.St}
theorem at_map (os : List O) (k : Nat) : En.at (os.map some) k = os[k]? := by
  unfold En.at
  rw [List.getElem?_map]
  cases os[k]? <;> rfl
theorem sg_map (vs : List V) (k : Nat) : (vs.map some)[k]? = vs[k]?.map some := List.getElem?_map ..
/-- the k-th that is handed -/
theorem HA.nth : ∀ {as : List Ar} {vs : List V} {os : List O} {k : Nat} {o : O}, HA K F H r σ as vs → hand r as = some os → os[k]? = some o →
    ∃ v, vs[k]? = some v ∧ ((∃ d, as[k]? = some (.v (.v d)) ∧ o = .v d ∧ Rv K F H v d) ∨ ∃ i, as[k]? = some (.s i) ∧ r.at i = some o ∧ σ[i]? = some (some v))
  | [], _, _, _, _, h, q, e => by
    cases h
    cases q
    simp at e
  | _ :: _, _, os, k, o, h, q, e => by
    cases h with
    | v h1 h2 =>
      simp only [hand, Option.bind_eq_bind, Option.bind_eq_some_iff, Option.some.injEq] at q
      obtain ⟨t, q1, rfl⟩ := q
      cases k with
      | zero =>
        simp at e
        subst e
        exact ⟨_, rfl, .inl ⟨_, rfl, rfl, h1⟩⟩
      | succ k =>
        obtain ⟨v, e1, r1⟩ := HA.nth (k := k) h2 q1 (by simpa using e)
        exact ⟨v, by simpa using e1, by simpa using r1⟩
    | s h1 h2 =>
      simp only [hand, Option.bind_eq_bind, Option.bind_eq_some_iff, Option.some.injEq] at q
      obtain ⟨p, q0, t, q1, rfl⟩ := q
      cases k with
      | zero =>
        simp at e
        subst e
        exact ⟨_, rfl, .inr ⟨_, rfl, q0, h1⟩⟩
      | succ k =>
        obtain ⟨v, e1, r1⟩ := HA.nth (k := k) h2 q1 (by simpa using e)
        exact ⟨v, by simpa using e1, by simpa using r1⟩
theorem HA.len : ∀ {as : List Ar} {vs : List V} {os : List O}, HA K F H r σ as vs → hand r as = some os → os.length = vs.length ∧ vs.length = as.length
  | [], _, _, h, q => by
    cases h
    cases q
    exact ⟨rfl, rfl⟩
  | _ :: _, _, os, h, q => by
    cases h with
    | v h1 h2 =>
      simp only [hand, Option.bind_eq_bind, Option.bind_eq_some_iff, Option.some.injEq] at q
      obtain ⟨t, q1, rfl⟩ := q
      have := h2.len q1
      simp [this.1, this.2]
    | s h1 h2 =>
      simp only [hand, Option.bind_eq_bind, Option.bind_eq_some_iff, Option.some.injEq] at q
      obtain ⟨p, q0, t, q1, rfl⟩ := q
      have := h2.len q1
      simp [this.1, this.2]
/-- a slot that is handed as its own is in the list, at one place -/
theorem own_mem : ∀ {as : List Ar} {k i : Nat} {o : O}, as[k]? = some (.s i) → r.at i = some o → isOwn o = true → i ∈ ownSl r as
  | [], _, _, _, h, _, _ => by simp at h
  | .v _ :: as, 0, _, _, h, _, _ => by simp at h
  | .v _ :: as, k + 1, _, _, h, e, w => own_mem (as := as) (k := k) (by simpa using h) e w
  | .s j :: as, 0, i, o, h, e, w => by
    simp at h
    subst h
    unfold ownSl
    rw [e]
    simp [w]
  | .s j :: as, k + 1, i, o, h, e, w => by
    have := own_mem (as := as) (k := k) (by simpa using h) e w
    unfold ownSl
    cases q : r.at j with
    | none => exact this
    | some p =>
      show i ∈ if isOwn p = true then j :: ownSl r as else ownSl r as
      split
      · exact List.mem_cons_of_mem _ this
      · exact this
theorem own_one : ∀ {as : List Ar} {k l i : Nat} {o : O}, (ownSl r as).Nodup → as[k]? = some (.s i) → as[l]? = some (.s i) → r.at i = some o → isOwn o = true → k = l
  | [], _, _, _, _, _, h, _, _, _ => by simp at h
  | .v _ :: as, 0, _, _, _, _, h, _, _, _ => by simp at h
  | .v _ :: as, _ + 1, 0, _, _, _, _, h, _, _ => by simp at h
  | .v _ :: as, k + 1, l + 1, i, o, n, h1, h2, e, w => congrArg Nat.succ (own_one (as := as) (by simpa [ownSl] using n) (by simpa using h1) (by simpa using h2) e w)
  | .s j :: as, 0, 0, _, _, _, _, _, _, _ => rfl
  | .s j :: as, 0, l + 1, i, o, n, h1, h2, e, w => by
    simp at h1
    subst h1
    unfold ownSl at n
    rw [e] at n
    simp only [w, if_true] at n
    exact absurd (own_mem (as := as) (k := l) (by simpa using h2) e w) (List.nodup_cons.mp n).1
  | .s j :: as, k + 1, 0, i, o, n, h1, h2, e, w => by
    simp at h2
    subst h2
    unfold ownSl at n
    rw [e] at n
    simp only [w, if_true] at n
    exact absurd (own_mem (as := as) (k := k) (by simpa using h1) e w) (List.nodup_cons.mp n).1
  | .s j :: as, k + 1, l + 1, i, o, n, h1, h2, e, w => by
    have n' : (ownSl r as).Nodup := by
      unfold ownSl at n
      cases q : r.at j with
      | none =>
        rw [q] at n
        exact n
      | some p =>
        rw [q] at n
        by_cases c : isOwn p = true
        · simp only [c, if_true] at n
          exact (List.nodup_cons.mp n).2
        · simp only [c] at n
          exact n
    exact congrArg Nat.succ (own_one (as := as) n' (by simpa using h1) (by simpa using h2) e w)
/-- pure values behind -/
inductive PV (K : PySem.W.Frag) (F : Addr → Prop) (H : Hp) : List D → List V → Prop
  | nil : PV K F H [] []
  | cons {d : D} {v : V} {ds : List D} {vs : List V} : Rv K F H v d → PV K F H ds vs → PV K F H (d :: ds) (v :: vs)
/-- the callee's slots at its entry -/
theorem HA.re (e : RE K F H r σ) {as : List Ar} {vs : List V} {os : List O} (h : HA K F H r σ as vs) (q : hand r as = some os) (n : (ownSl r as).Nodup) {ds : List D} {ws : List V} (rw_ : RvA K F H ws ds) : RE K F H ((os ++ ds.map O.v).map some) ((vs ++ ws).map some) := by
  have l := h.len q
  have lw := RvA.length rw_
  have nth : ∀ k o, (os ++ ds.map O.v)[k]? = some o → ∃ v, (vs ++ ws)[k]? = some v ∧ ((∃ d, o = .v d ∧ Rv K F H v d) ∨ ∃ i, as[k]? = some (Ar.s i) ∧ r.at i = some o ∧ σ[i]? = some (some v)) := fun k o hk => by
    by_cases c : k < os.length
    · rw [List.getElem?_append_left c] at hk
      obtain ⟨v, e1, h2⟩ := h.nth q hk
      refine ⟨v, by rw [List.getElem?_append_left (by omega)]; exact e1, ?_⟩
      rcases h2 with ⟨d, _, h3, h4⟩ | h2
      · exact .inl ⟨d, h3, h4⟩
      · exact .inr h2
    · rw [List.getElem?_append_right (by omega), List.getElem?_map, Option.map_eq_some_iff] at hk
      obtain ⟨d, hd, rfl⟩ := hk
      obtain ⟨v, e1, rv⟩ := rw_.get hd
      exact ⟨v, by rw [List.getElem?_append_right (by omega), ← l.1]; exact e1, .inl ⟨d, rfl, rv⟩⟩
  refine ⟨by simp [l.1, lw], fun k o hk => ?_, fun k j ok oj a hk hj wk wj sk sj => ?_, e.dom⟩
  · rw [at_map] at hk
    obtain ⟨v, e1, h2⟩ := nth k o hk
    refine ⟨v, by rw [sg_map, e1]; rfl, ?_⟩
    rcases h2 with ⟨d, rfl, rv⟩ | ⟨i, _, h3, h4⟩
    · exact rv
    · obtain ⟨u, e2, ro⟩ := e.val i o h3
      rw [h4] at e2
      cases e2
      exact ro
  · rw [at_map] at hk hj
    obtain ⟨v, e1, h2⟩ := nth k ok hk
    obtain ⟨u, e2, h3⟩ := nth j oj hj
    rw [sg_map, e1] at sk
    rw [sg_map, e2] at sj
    cases sk
    cases sj
    rcases h2 with ⟨d, rfl, _⟩ | ⟨i, p1, p2, p3⟩
    · cases wk
    · rcases h3 with ⟨d, rfl, _⟩ | ⟨i', p1', p2', p3'⟩
      · cases wj
      · have := e.sep i i' ok oj a p2 p2' wk wj p3 p3'
        subst this
        exact own_one n p1 p1' p2 wk
/-- the callee's own things are the caller's -/
theorem HA.ow {as : List Ar} {vs : List V} {os : List O} (h : HA K F H r σ as vs) (q : hand r as = some os) {ds : List D} {ws : List V} {a : Addr} (w : Ow ((os ++ ds.map O.v).map some) ((vs ++ ws).map some) a) :
    ∃ (k i : Nat) (o : O), as[k]? = some (.s i) ∧ os[k]? = some o ∧ r.at i = some o ∧ isOwn o = true ∧ σ[i]? = some (some (.ref a)) := by
  have l := h.len q
  obtain ⟨k, o, h1, h2, h3⟩ := w
  rw [at_map] at h1
  by_cases c : k < os.length
  · rw [List.getElem?_append_left c] at h1
    obtain ⟨v, e1, hh⟩ := h.nth q h1
    rw [sg_map, List.getElem?_append_left (by omega), e1] at h3
    cases h3
    rcases hh with ⟨d, _, rfl, _⟩ | ⟨i, p1, p2, p3⟩
    · cases h2
    · exact ⟨k, i, o, p1, h1, p2, h2, p3⟩
  · rw [List.getElem?_append_right (by omega), List.getElem?_map, Option.map_eq_some_iff] at h1
    obtain ⟨d, _, rfl⟩ := h1
    cases h2
theorem putB_len (r0 : En) : ∀ (as : List Ar) (os : List O) (r : En), (putB r0 as os r).length = r.length
  | [], _, _ => by simp [putB]
  | .v _ :: as, [], r => by simp [putB]
  | .v _ :: as, _ :: os, r => by
    rw [putB]
    exact putB_len r0 as os r
  | .s i :: as, [], r => by simp [putB]
  | .s i :: as, o :: os, r => by
    rw [putB]
    cases q : r0.at i with
    | none => exact putB_len r0 as os r
    | some p =>
      show (if isOwn p = true then putB r0 as os (r.set i (some o)) else putB r0 as os r).length = _
      split
      · rw [putB_len r0 as os, List.length_set]
      · exact putB_len r0 as os r
theorem putB_out (r0 : En) (j : Nat) : ∀ (as : List Ar) (os : List O) (r : En), j ∉ ownSl r0 as → (putB r0 as os r).at j = r.at j
  | [], _, _, _ => by simp [putB]
  | .v _ :: as, [], r, _ => by simp [putB]
  | .v _ :: as, _ :: os, r, h => by
    rw [putB]
    exact putB_out r0 j as os r (by simpa [ownSl] using h)
  | .s i :: as, [], r, _ => by simp [putB]
  | .s i :: as, o :: os, r, h => by
    rw [putB]
    unfold ownSl at h
    cases q : r0.at i with
    | none =>
      rw [q] at h
      exact putB_out r0 j as os r h
    | some p =>
      rw [q] at h
      show En.at (if isOwn p = true then putB r0 as os (r.set i (some o)) else putB r0 as os r) j = _
      by_cases c : isOwn p = true
      · simp only [c, if_true] at h
        rw [if_pos c, putB_out r0 j as os _ fun z => h (List.mem_cons_of_mem _ z), at_set, if_neg fun z => h (by rw [z.1]; exact List.mem_cons_self)]
      · simp only [c] at h
        rw [if_neg c]
        exact putB_out r0 j as os r h
theorem putB_in (r0 : En) : ∀ (as : List Ar) (os : List O) (r : En) (k i : Nat) (p q : O), (ownSl r0 as).Nodup → as[k]? = some (.s i) → r0.at i = some p → isOwn p = true → os[k]? = some q → i < r.length → (putB r0 as os r).at i = some q
  | [], _, _, _, _, _, _, _, h, _, _, _, _ => by simp at h
  | _ :: _, [], _, _, _, _, _, _, _, _, _, h, _ => by simp at h
  | .v _ :: as, _ :: os, r, 0, i, p, q, n, h, e, w, hq, l => by simp at h
  | .v _ :: as, _ :: os, r, k + 1, i, p, q, n, h, e, w, hq, l => by
    rw [putB]
    exact putB_in r0 as os r k i p q (by simpa [ownSl] using n) (by simpa using h) e w (by simpa using hq) l
  | .s j :: as, o :: os, r, 0, i, p, q, n, h, e, w, hq, l => by
    simp at h hq
    subst h hq
    unfold ownSl at n
    rw [e] at n
    simp only [w, if_true] at n
    rw [putB, e]
    show En.at (if isOwn p = true then putB r0 as os (r.set j (some o)) else putB r0 as os r) j = _
    rw [if_pos w, putB_out r0 j as os _ (List.nodup_cons.mp n).1, at_set, if_pos ⟨rfl, l⟩]
  | .s j :: as, o :: os, r, k + 1, i, p, q, n, h, e, w, hq, l => by
    rw [putB]
    unfold ownSl at n
    cases q1 : r0.at j with
    | none =>
      rw [q1] at n
      exact putB_in r0 as os r k i p q n (by simpa using h) e w (by simpa using hq) l
    | some u =>
      rw [q1] at n
      show En.at (if isOwn u = true then putB r0 as os (r.set j (some o)) else putB r0 as os r) i = _
      by_cases c : isOwn u = true
      · simp only [c, if_true] at n
        rw [if_pos c]
        exact putB_in r0 as os _ k i p q (List.nodup_cons.mp n).2 (by simpa using h) e w (by simpa using hq) (by rw [List.length_set]; exact l)
      · simp only [c] at n
        rw [if_neg c]
        exact putB_in r0 as os r k i p q n (by simpa using h) e w (by simpa using hq) l
theorem mem_own : ∀ {as : List Ar} {i : Nat}, i ∈ ownSl r as → ∃ (k : Nat) (o : O), as[k]? = some (.s i) ∧ r.at i = some o ∧ isOwn o = true
  | [], _, h => by simp [ownSl] at h
  | .v _ :: as, i, h => by
    obtain ⟨k, o, h1, h2⟩ := mem_own (as := as) (by simpa [ownSl] using h)
    exact ⟨k + 1, o, by simpa using h1, h2⟩
  | .s j :: as, i, h => by
    unfold ownSl at h
    cases q : r.at j with
    | none =>
      rw [q] at h
      obtain ⟨k, o, h1, h2⟩ := mem_own (as := as) h
      exact ⟨k + 1, o, by simpa using h1, h2⟩
    | some p =>
      rw [q] at h
      by_cases c : isOwn p = true
      · simp only [c, if_true] at h
        rcases List.mem_cons.mp h with rfl | h
        · exact ⟨0, p, rfl, q, c⟩
        · obtain ⟨k, o, h1, h2⟩ := mem_own (as := as) h
          exact ⟨k + 1, o, by simpa using h1, h2⟩
      · simp only [c] at h
        obtain ⟨k, o, h1, h2⟩ := mem_own (as := as) h
        exact ⟨k + 1, o, by simpa using h1, h2⟩
/-- behind the call -/
theorem Ended.go (e : RE K F H r σ) {as : List Ar} {vs : List V} {os os' : List O} {o : O} {v : V} (h : HA K F H r σ as vs) (q : hand r as = some os) (n : (ownSl r as).Nodup) {ds : List D} {ws : List V}
    (c : Ended K F H (os ++ ds.map O.v) (vs ++ ws) F' H' os' o v) : GoE K F H r σ F' H' (putB r as os' r) := by
  have l := h.len q
  have sub : ∀ a, Ow ((os ++ ds.map O.v).map some) ((vs ++ ws).map some) a → Ow r σ a := fun a w => by
    obtain ⟨k, i, o, _, _, p1, p2, p3⟩ := h.ow q w
    exact ⟨i, o, p1, p2, p3⟩
  -- a slot that is handed as its own
  have inn : ∀ i, i ∈ ownSl r as → ∃ q u o0, (putB r as os' r).at i = some q ∧ σ[i]? = some (some u) ∧ RO K F' H' q u ∧ r.at i = some o0 ∧ isOwn o0 = true := fun i hi => by
    obtain ⟨k, o0, h1, h2, h3⟩ := mem_own hi
    have hk : k < as.length := (List.getElem?_eq_some_iff.mp h1).1
    have hk2 : k < os.length := by omega
    have e2 : os[k]? = some os[k] := List.getElem?_eq_getElem hk2
    obtain ⟨w, e3, hh⟩ := h.nth q e2
    rcases hh with ⟨d, z, _⟩ | ⟨i', p1, p2, p3⟩
    · rw [h1] at z
      cases z
    · rw [h1] at p1
      cases p1
      rw [h2] at p2
      have p2' : o0 = os[k] := Option.some.inj p2
      obtain ⟨q1, u, z1, z2, z3⟩ := c.outs k o0 (by rw [List.getElem?_append_left hk2, e2, p2']) h3
      rw [List.getElem?_append_left (by omega), e3] at z2
      cases z2
      exact ⟨q1, w, o0, putB_in r as os' r k i o0 q1 n h1 h2 h3 z1 (at_lt h2), p3, z3, h2, h3⟩
  refine ⟨c.ex.mono sub, ⟨by rw [putB_len]; exact e.len, fun i p hp => ?_, fun i j oi oj a hi hj wi wj si sj => ?_, c.dom⟩, fun i p a hp ow si => ?_, fun _ _ => rfl, rfl⟩
  · by_cases m : i ∈ ownSl r as
    · obtain ⟨q1, u, o0, z1, z2, z3, _⟩ := inn i m
      rw [hp] at z1
      cases z1
      exact ⟨u, z2, z3⟩
    · rw [putB_out r i as os' r m] at hp
      obtain ⟨u, e1, ro⟩ := e.val i p hp
      refine ⟨u, e1, ro.mono (fun a w => e.mok a (sub a w)) c.ex fun w a z k => ?_⟩
      obtain ⟨k, i', o', z1, z2, z3, z4, z5⟩ := h.ow q k
      have := e.sep i i' p o' a hp z3 w z4 (by rw [e1, z]) z5
      subst this
      exact m (own_mem z1 z3 z4)
  · have was : ∀ i p, (putB r as os' r).at i = some p → isOwn p = true → ∃ o0, r.at i = some o0 ∧ isOwn o0 = true := fun i p hp w => by
      by_cases m : i ∈ ownSl r as
      · obtain ⟨q1, u, o0, _, _, _, z4, z5⟩ := inn i m
        exact ⟨o0, z4, z5⟩
      · rw [putB_out r i as os' r m] at hp
        exact ⟨p, hp, w⟩
    obtain ⟨o1, p1, p2⟩ := was i oi hi wi
    obtain ⟨o2, p3, p4⟩ := was j oj hj wj
    exact e.sep i j o1 o2 a p1 p3 p2 p4 si sj
  · by_cases m : i ∈ ownSl r as
    · obtain ⟨q1, u, o0, z1, z2, z3, z4, z5⟩ := inn i m
      exact .inl ⟨o0, z4, z5, si⟩
    · rw [putB_out r i as os' r m] at hp
      exact .inl ⟨p, hp, ow, si⟩
end
end Mp
end

/-! ## MpFn -/
section
set_option linter.all false
set_option maxRecDepth 100000
/-! Mp: a def's run, from its body; the call of a def. -/
namespace Mp
open PySem PySem.Spec PyProof.Rows L2
theorem mem_ownIx : ∀ {os : List O} {n k : Nat} {o : O}, os[k]? = some o → isOwn o = true → n + k ∈ ownIx os n
  | [], _, _, _, h, _ => by simp at h
  | p :: os, n, 0, o, h, w => by
    simp at h
    subst h
    unfold ownIx
    rw [if_pos w]
    exact List.mem_cons_self
  | p :: os, n, k + 1, o, h, w => by
    have := mem_ownIx (os := os) (n := n + 1) (k := k) (by simpa using h) w
    rw [show n + 1 + k = n + (k + 1) from by omega] at this
    unfold ownIx
    split
    · exact List.mem_cons_of_mem _ this
    · exact this
theorem outs_get {r : En} : ∀ {os os' : List O} {n k : Nat} {o : O}, outs r os n = some os' → os[k]? = some o → isOwn o = true → ∃ q, r.at (n + k) = some q ∧ os'[k]? = some q
  | [], _, _, _, _, _, h, _ => by simp at h
  | p :: os, os', n, 0, o, e, h, w => by
    simp at h
    subst h
    unfold outs at e
    rw [if_pos w] at e
    simp only [Option.bind_eq_bind, Option.bind_eq_some_iff, Option.some.injEq] at e
    obtain ⟨q, e1, t, _, rfl⟩ := e
    exact ⟨q, e1, rfl⟩
  | p :: os, os', n, k + 1, o, e, h, w => by
    unfold outs at e
    have go : ∀ t, outs r os (n + 1) = some t → ∃ q, r.at (n + (k + 1)) = some q ∧ t[k]? = some q := fun t e1 => by
      have := outs_get (k := k) e1 (by simpa using h) w
      rw [show n + 1 + k = n + (k + 1) from by omega] at this
      exact this
    split at e
    · simp only [Option.bind_eq_bind, Option.bind_eq_some_iff, Option.some.injEq] at e
      obtain ⟨q, _, t, e1, rfl⟩ := e
      exact go t e1
    · simp only [Option.bind_eq_bind, Option.bind_eq_some_iff, Option.some.injEq] at e
      obtain ⟨t, e1, rfl⟩ := e
      exact go t e1
section
variable {K : PySem.W.Frag} {F F' : Addr → Prop} {H H' : Hp}
theorem pad_at (os : List O) (n k : Nat) : En.at (os.map some ++ List.replicate n none) k = os[k]? := by
  unfold En.at
  by_cases c : k < os.length
  · rw [List.getElem?_append_left (by simpa using c), List.getElem?_map]
    cases os[k]? <;> rfl
  · rw [List.getElem?_append_right (by simpa using c), List.getElem?_eq_none (by omega : os.length ≤ k)]
    simp only [List.length_map]
    by_cases d : k - os.length < n
    · rw [List.getElem?_replicate, if_pos d]
      rfl
    · rw [List.getElem?_replicate, if_neg d]
      rfl
theorem start_at {N : List Str} {vs : List V} {k : Nat} {v : V} (h : vs[k]? = some v) : (start N vs)[k]? = some (some v) := by
  have c : k < vs.length := (List.getElem?_eq_some_iff.mp h).1
  unfold L2.start
  rw [List.getElem?_append_left (by simpa using c), List.getElem?_map, h]
  rfl
/-- the slots at a def's entry -/
theorem RE.pad {os : List O} {vs : List V} {N : List Str} {n : Nat} (e : RE K F H (os.map some) (vs.map some)) (hn : n = N.length - vs.length) : RE K F H (os.map some ++ List.replicate n none) (start N vs) := by
  have l := e.len
  rw [List.length_map, List.length_map] at l
  have at_ : ∀ k, En.at (os.map some ++ List.replicate n none) k = En.at (os.map some) k := fun k => by rw [pad_at, at_map]
  have sg : ∀ k o, En.at (os.map some) k = some o → (start N vs)[k]? = (vs.map some)[k]? := fun k o h => by
    obtain ⟨v, e1, _⟩ := e.val k o h
    rw [sg_map, Option.map_eq_some_iff] at e1
    obtain ⟨u, e1, e2⟩ := e1
    rw [start_at e1, sg_map, e1]
    rfl
  refine ⟨by unfold L2.start; simp [l, hn], fun k o h => ?_, fun i j oi oj a hi hj wi wj si sj => ?_, e.dom⟩
  · rw [at_] at h
    obtain ⟨v, e1, ro⟩ := e.val k o h
    exact ⟨v, by rw [sg k o h]; exact e1, ro⟩
  · rw [at_] at hi hj
    rw [sg i oi hi] at si
    rw [sg j oj hj] at sj
    exact e.sep i j oi oj a hi hj wi wj si sj
theorem pad_ow {os : List O} {vs : List V} {N : List Str} {n : Nat} (e : RE K F H (os.map some) (vs.map some)) {a : Addr} (w : Ow (os.map some ++ List.replicate n none) (start N vs) a) : Ow (os.map some) (vs.map some) a := by
  obtain ⟨i, o, h1, h2, h3⟩ := w
  rw [pad_at] at h1
  rw [← at_map] at h1
  refine ⟨i, o, h1, h2, ?_⟩
  obtain ⟨v, e1, _⟩ := e.val i o h1
  rw [sg_map, Option.map_eq_some_iff] at e1
  obtain ⟨u, e1, e2⟩ := e1
  rw [start_at e1] at h3
  rw [sg_map, e1]
  exact h3
/-- the body's reading is the promise's -/
theorem body_end {g : Ga} {fd : Fd} {os os' : List O} {o : O} {vs : List V} {N : List Str} {Q : VK} (e : RE K F H (os.map some) (vs.map some)) (hr : runF g fd os = some (o, os')) (hns : fd.ns = N.length)
    (k : ∀ v H' F', Ended K F H os vs F' H' os' o v → Q v H') : TSm K (ownIx os 0) (exs g (ownIx os 0) fd.body) { nx := fun _ H' => Q .non H', rt := Q } (start N vs) H := by
  have l := e.len
  rw [List.length_map, List.length_map] at l
  unfold runF at hr
  split at hr
  · rename_i hnp
    have e0 := e.pad (N := N) (n := fd.ns - fd.np) (by omega)
    have own0 : ∀ i p, En.at (os.map some ++ List.replicate (fd.ns - fd.np) none) i = some p → isOwn p = true → i ∈ ownIx os 0 := fun i p h w => by
      rw [pad_at] at h
      have := mem_ownIx (n := 0) h w
      rwa [Nat.zero_add] at this
    have fin : ∀ {r' : En} {o : O} {v : V} {σ' : L2.St} {H' : Hp} {F' : Addr → Prop}, outs r' os 0 = some os' → Go K (Wn (ownIx os 0)) F H (os.map some ++ List.replicate (fd.ns - fd.np) none) (start N vs) F' H' r' σ' → RO K F' H' o v → (isOwn o = true → ∀ a, v = .ref a → H a = none) →
        Ended K F H os vs F' H' os' o v := fun {r' o v σ' H' F'} ho g1 ro nw => by
      refine ⟨g1.ex.mono fun a w => pad_ow e w, g1.re.dom, fun k o1 hk w => ?_, ro, nw⟩
      obtain ⟨q, h1, h2⟩ := outs_get ho hk w
      rw [Nat.zero_add] at h1
      obtain ⟨u, h3, rq⟩ := g1.re.val k q h1
      have pn : k ∈ ownIx os 0 := by
        have := mem_ownIx (n := 0) hk w
        rwa [Nat.zero_add] at this
      have hk2 : k < vs.length := by
        have := (List.getElem?_eq_some_iff.mp hk).1
        omega
      have hv : vs[k]? = some vs[k] := List.getElem?_eq_getElem hk2
      rw [g1.fix k fun z => z pn, start_at hv] at h3
      cases h3
      exact ⟨q, _, h2, hv, rq⟩
    split at hr
    · rename_i r' hx
      simp only [Option.map_eq_some_iff, Prod.mk.injEq] at hr
      obtain ⟨t, ho, rfl, rfl⟩ := hr
      refine ⟨F, _, _, r', e0, hx, fun σ' H' F' g1 => k .non H' F' (fin ho g1 .non fun z => nomatch z)⟩
    · rename_i o' r' hx
      simp only [Option.map_eq_some_iff, Prod.mk.injEq] at hr
      obtain ⟨t, ho, rfl, rfl⟩ := hr
      refine ⟨F, _, _, r', e0, hx, fun v σ' H' F' g1 rt => k v H' F' (fin ho g1 rt.1 fun w a z => ?_)⟩
      rcases (rt.2 w a z).1 with ⟨i, p, h1, h2, h3, _⟩ | h
      · exact absurd (own0 i p h2 h3) h1
      · exact h
    · cases hr
  · cases hr
end
/-! ### the call -/
section
variable {X : Cx} {f : Addr} {fd : FuncData} {ps : List Str} {nm : Str} {p pos : Pos} {e : Expr} {es : List Expr} {xs : List CE} {g : Ga} {ix : Nat} {k np : Nat}
theorem pe_cal' (Fo : FnOk X.prog X.w X.K X.mg X.base CX0 k f fd ps (spOf X.K np (g ix))) (hr : Room k X.A) (hg : Gl X nm) (hm : X.mg nm = some (.ref f)) (hk : PySem.W.keepIn X.K (.ref f) = true) {ds : List Value} {dvs : List V} {sel : List (Nat ⊕ D)} {dd : List D}
    (hb : Binds X.K fd ps ds) (hd : Vals dvs ds) (hsel : selK [] sel = some dd) (hdd : ∀ F H, RvA X.K F H dvs dd) (hnp : xs.length + dd.length = np)
    (ha : PA X es (TAc X.K (evac g xs))) (hx : es = [] → xs = []) (hs : es.all notStar = true) (hdb : (nm == ("__debug__" : Str)) = false) : PE X (.Call (.Name nm p) es [] pos) (TD X.K (ev g (.cal ix xs [] sel))) := by
  have main : ∀ σ H Q, TD X.K (ev g (.cal ix xs [] sel)) σ H Q → tCall (spOf X.K np (g ix)) dvs (fun _ _ _ => True) (TAc X.K (evac g xs)) σ H Q := fun σ H Q ⟨F, r, o, r', re, h, kk⟩ => by
    simp only [ev, evs, Option.bind_eq_bind, Option.bind_eq_some_iff, Prod.exists, Option.some.injEq, Prod.mk.injEq] at h
    obtain ⟨as, r1, h1, ds', r2, ⟨rfl, rfl⟩, os, h2, rest, h3, o', os', h4, rfl, rfl⟩ := h
    unfold nodO at h4
    split at h4
    · rename_i nd
      rw [hsel] at h3
      cases h3
      refine ⟨F, r, as, r1, re, h1, fun vs H1 F1 g1 ha => ?_⟩
      have l := ha.len h2
      refine ⟨?_, F1, os ++ dd.map O.v, o', os', ha.re g1.re h2 nd (hdd F1 H1), h4, fun v H' F' c => ?_⟩
      · have := RvA.length (hdd F1 H1)
        have l3 := evac_len h1
        rw [List.length_append]
        omega
      · have g2 := c.go g1.re ha h2 nd
        have gg := g1.trans g2
        exact kk v H' F' gg (.of re gg c.ret fun w a z => g1.ex.dom a (c.new w a z))
    · cases h4
  cases es with
  | nil =>
    refine wk (pe_call0 Fo hr hg hm hk hb hd pass0 hdb) fun σ H Q h => ?_
    obtain ⟨F, r, as, r', re, h1, k2⟩ := main σ H Q h
    have hx0 := hx rfl
    subst hx0
    rw [evac] at h1
    cases h1
    exact k2 [] H F (.refl re) .nil
  | cons e es =>
    obtain ⟨hs1, hs2⟩ := Bool.and_eq_true_iff.mp (show (notStar e && es.all notStar) = true from hs)
    exact wk (pe_call Fo hr hg hm hk hb hd pass0 ha hdb (star_cons hs1) (star_any hs2)) main
where
  evac_len : ∀ {xs : List CE} {r r' : En} {as : List Ar}, evac g xs r = some (as, r') → as.length = xs.length
  | [], _, _, _, h => by
    rw [evac] at h
    cases h
    rfl
  | x :: xs, _, _, _, h => by
    simp only [evac, Option.bind_eq_bind, Option.bind_eq_some_iff, Prod.exists] at h
    obtain ⟨a, r1, h1, as, r2, h2, h3⟩ := h
    cases h3
    exact congrArg Nat.succ (evac_len h2)
end
end Mp
end

/-! ## MpMut -/
section
set_option linter.all false
set_option maxRecDepth 100000
/-! Mp: what changes a slot's own list or dict. -/
namespace Mp
open PySem PySem.Spec PyProof.Rows L2
section
variable {K : PySem.W.Frag} {F F' F1 : Addr → Prop} {H H' H1 : Hp} {r r' r1 : En} {σ σ' σ1 : L2.St} {W : Nat → Prop}
theorem Ex.at1 {a : Addr} {u' : HO} {H : Hp} {F : Addr → Prop} : Ex (fun b => b = a) F H F (upd H a u') := ⟨fun b o e n => by rw [upd_ne n]; exact e, fun _ z => z, fun _ z => .inl z, fun b z => by
  by_cases q : b = a
  · subst q
    rw [upd_same] at z
    cases z
  · rw [upd_ne q] at z
    exact z⟩
/-- a slot's own thing is changed -/
theorem Go.mutate (g : Go K W F H r σ F1 H1 r1 σ1) {i : Nat} {o o' : O} {a : Addr} {u' : HO} (h : r1.at i = some o) (w : isOwn o = true) (w' : isOwn o' = true) (e : σ1[i]? = some (some (.ref a))) (ro : RO K F1 (upd H1 a u') o' (.ref a)) :
    Go K W F H r σ F1 (upd H1 a u') (r1.set i (some o')) σ1 := by
  have lt := at_lt h
  have mk : Mok (fun b => b = a) F1 H1 := fun b z => by
    subst z
    exact g.re.mok b ⟨i, o, h, w, e⟩
  have oth : ∀ j p, En.at (r1.set i (some o')) j = some p → (j = i ∧ p = o') ∨ (i ≠ j ∧ r1.at j = some p) := fun j p hp => by
    rw [at_set] at hp
    by_cases c : i = j
    · rw [if_pos ⟨c, lt⟩] at hp
      cases hp
      exact .inl ⟨c.symm, rfl⟩
    · rw [if_neg fun z => c z.1] at hp
      exact .inr ⟨c, hp⟩
  have was : ∀ j p, En.at (r1.set i (some o')) j = some p → isOwn p = true → ∃ p0, r1.at j = some p0 ∧ isOwn p0 = true := fun j p hp ow => by
    rcases oth j p hp with ⟨rfl, rfl⟩ | ⟨_, hp⟩
    · exact ⟨o, h, w⟩
    · exact ⟨p, hp, ow⟩
  have x2 : Ex (Ow r1 σ1) F1 H1 F1 (upd H1 a u') := Ex.at1.mono fun b z => by
    subst z
    exact ⟨i, o, h, w, e⟩
  refine ⟨g.ex.trans x2 g.own, ⟨by rw [List.length_set]; exact g.re.len, fun j p hp => ?_, fun j k oj ok b hj hk wj wk sj sk => ?_, fun b f z => g.re.dom b f (x2.dom b z)⟩, fun j p b hp ow sj => ?_, g.fix, g.ln⟩
  · rcases oth j p hp with ⟨rfl, rfl⟩ | ⟨c, hp⟩
    · exact ⟨.ref a, e, ro⟩
    · obtain ⟨v, e1, r2⟩ := g.re.val j p hp
      refine ⟨v, e1, r2.mono mk Ex.at1 fun ow b z q => c ?_⟩
      subst q
      exact g.re.sep i j o p b h hp w ow e (by rw [e1, z])
  · obtain ⟨p1, q1, q2⟩ := was j oj hj wj
    obtain ⟨p2, q3, q4⟩ := was k ok hk wk
    exact g.re.sep j k p1 p2 b q1 q3 q2 q4 sj sk
  · obtain ⟨p1, q1, q2⟩ := was j p hp ow
    exact g.sub j p1 b q1 q2 sj
/-- the slot's list -/
theorem RE.lstAt (e : RE K F H r σ) {i : Nat} {ds : List D} (h : r.at i = some (.lst ds)) : ∃ a xs, σ[i]? = some (some (.ref a)) ∧ ¬ F a ∧ H a = some (.lst xs) ∧ xs.length ≤ SZ ∧ RvA K F H xs ds := by
  obtain ⟨v, e1, a, xs, rfl, n, q, l, rs⟩ := e.val i _ h
  exact ⟨a, xs, e1, n, q, l, rs⟩
end
theorem isLst_at {K : PySem.W.Frag} {F : Addr → Prop} {H : Hp} {r : En} {σ : L2.St} (e : RE K F H r σ) {i : Nat} {u : Unit} (h : isLst r i = some u) : ∃ a xs, σ[i]? = some (some (.ref a)) ∧ H a = some (.lst xs) := by
  unfold isLst at h
  split at h
  · rename_i ds hs
    obtain ⟨a, xs, e1, _, q, _⟩ := e.lstAt hs
    exact ⟨a, xs, e1, q⟩
  · cases h
section
variable {X : Cx} {e : Expr} {x : CE} {g : Ga} {i : Nat} {o : Expr} {apos cpos : Pos}
theorem few1 {env : Env} {e : Expr} (n : notStar e = true) : ((backTo cpos (starEach [e] env)).all (fun x => !x.1) && (backToKw cpos (keywordEach [] env)).all (fun x => x.1.isSome)
      && decide (([e] : List Expr).length + ([] : List Keyword).length + (if ([] : List Keyword).isEmpty then 0 else 1) < 30)) = true := by
  rw [star_cons n]
  rfl
theorem pe_app' (ho : PE X o (tVar i)) (he : PE X e (TD X.K (ev g x))) (n : notStar e = true) (hbase : attributeBase o "append" X.env (eval o X.env) = eval o X.env) (hline : (apos.endLine == cpos.line) = true) :
    PE X (.Call (.Attribute o "append" apos) [e] [] cpos) (TD X.K (ev g (.app i x))) :=
  wk (pe_bm PySem.F.plainAttrs_list PySem.F.slot_list_append PySem.F.type_list_append mt_append ho (pa_v1 he pa_v0 n) hbase (few1 n) hline (star_cons n) rfl) fun σ H Q ⟨F, r, q, r', re, h, k⟩ => by
    simp only [ev, Option.bind_eq_bind, Option.bind_eq_some_iff, Prod.exists] at h
    obtain ⟨_, h0, y, r1, h1, h2⟩ := h
    split at h2
    · rename_i ds hs
      split at h2
      · rename_i hl
        cases h2
        obtain ⟨a, xs0, ea, Ha⟩ := isLst_at re h0
        refine ⟨.ref a, ea, .inl ⟨rfl, xs0, .of Ha⟩, F, r, [y.d], r1, re, by simp [evs, h1], fun vs H1 F1 g1 rvs => ?_⟩
        cases rvs with
        | cons q1 q2 =>
          cases q2
          obtain ⟨a', xs, ea', nf, Ha', l, rs⟩ := g1.re.lstAt hs
          rw [ea] at ea'
          cases ea'
          have l2 := RvA.length rs
          refine ⟨a, xs, _, rfl, rfl, Ha', by rw [← SZ_eq]; omega, ?_⟩
          refine k _ _ F1 (Go.mutate g1 hs rfl rfl ea ⟨a, _, rfl, nf, upd_same, ?_, RvA.updN (rs.append (.cons q1 .nil)) Ha' trivial nf⟩) (.v .non)
          rw [List.length_append]
          show xs.length + 1 ≤ SZ
          omega
      · cases h2
    · cases h2
theorem pe_pop' (ho : PE X o (tVar i)) (he : PE X e (TD X.K (ev g x))) (n : notStar e = true) (hbase : attributeBase o "pop" X.env (eval o X.env) = eval o X.env) (hline : (apos.endLine == cpos.line) = true) :
    PE X (.Call (.Attribute o "pop" apos) [e] [] cpos) (TD X.K (ev g (.pop i (some x)))) :=
  wk (pe_bm PySem.F.plainAttrs_list PySem.F.slot_list_pop PySem.F.type_list_pop mt_popAt ho (pa_v1 he pa_v0 n) hbase (few1 n) hline (star_cons n) rfl) fun σ H Q ⟨F, r, q, r', re, h, k⟩ => by
    simp only [ev, evod, Option.bind_eq_bind, Option.bind_eq_some_iff, Prod.exists] at h
    obtain ⟨_, h0, yo, r1, ⟨y, r2, h1, h1'⟩, o, h2, d, o', h3, h4⟩ := h
    cases h1'
    cases h4
    obtain ⟨a, xs0, ea, Ha⟩ := isLst_at re h0
    refine ⟨.ref a, ea, .inl ⟨rfl, xs0, .of Ha⟩, F, r, [y.d], r1, re, by simp [evs, h1], fun vs H1 F1 g1 rvs => ?_⟩
    cases rvs with
    | cons q1 q2 =>
      cases q2
      generalize y.d = dy at q1 h3
      unfold popO at h3
      split at h3
      · cases ‹some _ = none›
      · rename_i j hj
        cases hj
        cases Rv.intE q1
        split at h3
        · rename_i ds
          simp only [Option.bind_eq_some_iff, Option.map_eq_some_iff, Prod.mk.injEq] at h3
          obtain ⟨m, hm, z, hz, rfl, rfl⟩ := h3
          obtain ⟨a', xs, ea', nf, Ha', l, rs⟩ := g1.re.lstAt h2
          rw [ea] at ea'
          cases ea'
          have l2 := RvA.length rs
          obtain ⟨v, hv, rv⟩ := rs.get hz
          obtain ⟨s1, s2, s3, s4⟩ := ixN_seq (show ixN ds.length j = some m from hm)
          have hsz : SZ = 16777216 := rfl
          refine ⟨a, xs, j, m, v, rfl, rfl, Ha', by omega, by omega, by rw [l2]; exact s1, hv, ?_⟩
          have mk : Mok (fun b => b = a) F1 H1 := fun b z => by
            subst z
            exact ⟨nf, _, Ha', trivial⟩
          refine k _ _ F1 (Go.mutate g1 h2 rfl rfl ea ⟨a, _, rfl, nf, upd_same, ?_, RvA.updN (rs.eraseIdx m) Ha' trivial nf⟩) (.v (rv.mono mk Ex.at1))
          exact Nat.le_trans (len_erase xs m) l
        · cases h3
      · cases h3
/-! ### a list's, a dict's item stored -/
theorem empty_T {pins : List (Addr × Obj)} {σ : L2.St} {H : Hp} {s : Shared} {a : Addr} (I : Inv X pins σ H s) (h : H a = some (.dK [])) : Inv X pins σ (upd H a (.dT [])) s := by
  obtain ⟨z, hd, vs, rel, ob, es, ep, h1, h2, h3, h4, h5, h6⟩ := dk_rd I.hok (.inl h)
  cases rel
  have new : ObjOk X.prog X.w (upd H a (.dT [])) s.heap a (.dT []) := by
    refine ⟨Nat.zero_le _, hd, [], .nil, ob, es, ep, h1, h2, h3, ?_, List.nodup_nil⟩
    cases q : es.toList with
    | nil => rfl
    | cons e r =>
      rw [q] at h5
      cases h5
  exact I.write (x := a) (e := a) (t' := s.toks) (by rw [h]; trivial) (.inl rfl) (fun b u _ q => q) ⟨ob, h1⟩ new
/-- o[i] = v: a list, a dict with flat keys, a dict at a tracked tuple -/
def rStore : TSet := fun o i v H Q => (∃ p xs k j, o = .ref p ∧ i = .int k ∧ H p = some (.lst xs) ∧ ixN xs.length k = some j ∧ Q (upd H p (.lst (xs.set j v)))) ∨
  (∃ a kvs k, o = .ref a ∧ i = kV k ∧ H a = some (.dK kvs) ∧ kvs.length < sizeLine ∧ Q (upd H a (.dK (L2.putK kvs k v)))) ∨
  ∃ a kvs k b, o = .ref a ∧ i = .ref b ∧ H b = some (.tup (k.map kV)) ∧ (H a = some (.dT kvs) ∨ (H a = some (.dK []) ∧ kvs = [])) ∧ kvs.length < sizeLine ∧ Q (upd H a (.dT (L2.putK kvs k v)))
theorem set_any (hu : X.A.units + 1 < cLine) : PSet X rStore := by
  intro pins s σ H o i v ov iv u Q I ro ri rv h
  rcases h with h | ⟨a, kvs, k, rfl, rfl, ha, hl, q⟩ | ⟨a, kvs, k, b, rfl, rfl, hb, ha, hl, q⟩
  · exact set_list pins s σ H o i v ov iv u Q I ro ri rv h
  · cases ro
    exact d_setItem hu I (.k ha hl) ri rv fun s' I' => ⟨_, I', q⟩
  · cases ro
    rcases ha with ha | ⟨ha, rfl⟩
    · exact d_setItem hu I (.t ha hb hl) ri rv fun s' I' => ⟨_, I', q⟩
    · have I2 := empty_T I ha
      have hb2 : upd H a (.dT []) b = some (.tup (k.map kV)) := by
        rw [upd_ne]
        · exact hb
        · rintro rfl
          rw [ha] at hb
          cases hb
      exact d_setItem hu I2 (.t upd_same hb2 hl) ri rv fun s' I' => ⟨_, by rw [upd_upd] at I'; exact I', q⟩
end
end Mp
end

/-! ## MpStmt2 -/
section
set_option linter.all false
set_option maxRecDepth 100000
/-! Mp: stores of items, several names at once. -/
namespace Mp
open PySem PySem.Spec PyProof.Rows L2
section
variable {X : Cx} {pn : List Nat} {g : Ga} {pos ppos : Pos} {o ie e : Expr} {i : Nat} {x y : CE}
/-- the store, by what setO makes of data -/
theorem set_to {K : PySem.W.Frag} {F F1 : Addr → Prop} {H H1 : Hp} {r r1 : En} {σ σ1 : L2.St} {W : Nat → Prop} {D' : L2.St → Hp → Prop} (g : Go K W F H r σ F1 H1 r1 σ1) {i : Nat} {p p' : O} {k d : D} {u w v : V} (hp : r1.at i = some p) (hs : setO p k d = some p') (hu : σ1[i]? = some (some u))
    (rk : Rv K F1 H1 w k) (rd : Rv K F1 H1 v d) (kk : ∀ H' F', Go K W F H r σ F' H' (r1.set i (some p')) σ1 → D' σ1 H') : rStore u w v H1 fun H3 => D' σ1 H3 := by
  obtain ⟨u', e1, ro⟩ := g.re.val i p hp
  rw [hu] at e1
  cases e1
  unfold setO at hs
  split at hs
  · rename_i xs j
    simp only [ixSet, Option.map_eq_some_iff] at hs
    obtain ⟨ys, ⟨m, hm, rfl⟩, rfl⟩ := hs
    cases Rv.intE rk
    obtain ⟨a, vs, rfl, nf, q, l, rs⟩ := ro
    have l2 := RvA.length rs
    refine .inl ⟨a, vs, j, m, rfl, rfl, q, by rw [l2]; exact hm, kk _ F1 (Go.mutate g hp rfl rfl hu ⟨a, _, rfl, nf, upd_same, by rw [List.length_set]; exact l, RvA.updN (rs.set rd m) q trivial nf⟩)⟩
  · rename_i kvs k' _
    split at hs
    · rename_i hc
      cases hs
      simp only [Bool.and_eq_true, decide_eq_true_eq, Bool.not_eq_true'] at hc
      obtain ⟨⟨ok, nt⟩, hl⟩ := hc
      obtain ⟨ok1, ok2⟩ := Bool.and_eq_true_iff.mp ok
      rcases keyD_of ok1 rk with ⟨j, rfl, rfl⟩ | ⟨ks, b, rfl, _⟩
      · have ro' := ro
        obtain ⟨a, rfl, nf, q⟩ := ro
        have mk : ∀ {u : HO}, H1 a = some u → MutO u → Mok (fun b => b = a) F1 H1 := fun q m b z => by
          subst z
          exact ⟨nf, _, q, m⟩
        obtain ⟨a', ea, da⟩ := da_of ro' rfl ok rk
        cases ea
        rcases da_get da with ⟨kvs', j', q', e1, e2, rs⟩ | ⟨_, _, _, _, _, _, e2, _⟩
        · have ej : j' = j := by
            cases j <;> cases j' <;> cases e2 <;> rfl
          subst ej
          have l2 := RvK.length rs
          refine .inr (.inl ⟨a, kvs', j', rfl, rfl, q', by rw [← SZ_eq]; omega, kk _ F1 (Go.mutate g hp rfl rfl hu ⟨a, rfl, nf, .inl ⟨_, upd_same, ?_, RvK.mono (mk q' trivial) Ex.at1 (putK_K rs rd)⟩⟩)⟩)
          have := putK_len kvs' j' v
          omega
        · cases j <;> cases e2
      · cases nt
    · cases hs
  · cases hs
theorem ps_sti1 (ho : PE X o (tVar i)) (he : PE X e (TD X.K (ev g y))) (hi : PE X ie (TD X.K (ev g x))) (hx : ∀ es, x ≠ .tup es) (hu : X.A.units + 1 < cLine)
    (ha : ∀ v, assign (.Subscript o ie ppos) X.env v = (do
      let ov ← holding [v] (eval o X.env)
      let iv ← holding [v, ov] (eval ie X.env)
      standAt ppos
      holding [v, ov, iv] (setItem ov iv v)
      release [v, ov, iv] [])) (hs : swapsWithSole [.Subscript o ie ppos] e pos.line X.env = pure false) (hw : swappedStores [.Subscript o ie ppos] e X.env = pure none) :
    PS X (.Assign [.Subscript o ie ppos] e pos) (TSm X.K pn (ex g pn (.sti i x y))) :=
  wkS (ps_asg he (pg_sub ho hi (set_any hu) ha) hs hw rfl) fun D σ H ⟨F, r, fl, r', re, h, k⟩ => by
    have h' : (do
      let (y, r) ← ev g y r
      let _ ← r.at i
      let (k, r) ← ev g x r
      let o ← r.at i
      let o ← setO o k.d y.d
      some (Fl.nx, r.set i (some o))) = some (fl, r') := by
      rw [← h, ex]
      exact hx
    simp only [Option.bind_eq_bind, Option.bind_eq_some_iff, Prod.exists] at h'
    obtain ⟨d, r1, h1, p0, h0, kk, r2, h2, p, hp, p', hs', h3⟩ := h'
    cases h3
    refine ⟨F, r, d, r1, re, h1, fun v H1 F1 g1 rr => ?_⟩
    obtain ⟨F2, g2, rv⟩ := g1.frz re rr
    obtain ⟨u, hu', _⟩ := g2.re.val i p0 h0
    refine ⟨u, hu', F2, r1, kk, r2, g2.re, h2, fun w H3 F3 g3 rr3 => ?_⟩
    obtain ⟨F4, g4, rk⟩ := g3.frz g2.re rr3
    have gg := (g2.trans g4).wide (W' := Wn pn) fun _ z => z.elim
    exact set_to gg hp hs' hu' rk (rv.mono g2.re.mok g4.ex) fun H' F' go => k σ H' F' go
theorem keys_inj : ∀ {xs ys : List Key}, xs.map keyData = ys.map keyData → xs = ys
  | [], [], _ => rfl
  | [], _ :: _, h => by cases h
  | _ :: _, [], h => by cases h
  | x :: xs, y :: ys, h => by
    rw [List.map_cons, List.map_cons] at h
    injection h with h1 h2
    have : x = y := by cases x <;> cases y <;> cases h1 <;> rfl
    rw [this, keys_inj h2]
/-- the store at a tuple that is written there -/
theorem setT_to {K : PySem.W.Frag} {F F1 : Addr → Prop} {H H1 : Hp} {r r1 : En} {σ σ1 : L2.St} {W : Nat → Prop} {D' : L2.St → Hp → Prop} (g : Go K W F H r σ F1 H1 r1 σ1) {i : Nat} {p p' : O} {ks : List D} {d : D} {u v : V} {b : Addr} {ws : List V} (hp : r1.at i = some p) (hs : setT p (.tuple ks) d = some p') (hu : σ1[i]? = some (some u))
    (hb : H1 b = some (.tup ws)) (hl : ws.length ≤ SZ) (rk : RvA K F1 H1 ws ks) (rd : Rv K F1 H1 v d) (kk : ∀ H' F', Go K W F H r σ F' H' (r1.set i (some p')) σ1 → D' σ1 H') : rStore u (.ref b) v H1 fun H3 => D' σ1 H3 := by
  obtain ⟨u', e1, ro⟩ := g.re.val i p hp
  rw [hu] at e1
  cases e1
  unfold setT at hs
  split at hs
  · rename_i kvs
    split at hs
    · rename_i hc
      cases hs
      simp only [Bool.and_eq_true, decide_eq_true_eq] at hc
      obtain ⟨ok, hl2⟩ := hc
      have ro' := ro
      obtain ⟨a, rfl, nf, q⟩ := ro
      have mk : ∀ {u : HO}, H1 a = some u → MutO u → Mok (fun b => b = a) F1 H1 := fun q m b z => by
        subst z
        exact ⟨nf, _, q, m⟩
      have rt : Rv K F1 H1 (.ref b) (.tuple ks) := .tup (.of hb) hl rk
      obtain ⟨a', ea, da⟩ := da_of ro' rfl ok rt
      cases ea
      rcases da_get da with ⟨kvs', j', q', e1, e2, rs⟩ | ⟨kvs', j, b', q', e1, hb', e2, rs⟩
      · cases e1' : j' <;> rw [e1'] at e2 <;> cases e2
      · cases e1
        have hk2 : ks = j.map keyData := by
          injection e2
        subst hk2
        have hw : ws = j.map kV := by
          obtain ⟨j2, z1, z2⟩ := keysF_of (by
            rw [List.all_map, List.all_eq_true]
            intro x _
            cases x <;> rfl) rk
          have : j2 = j := (keys_inj z1).symm
          rw [z2, this]
        subst hw
        have l2 := RvT.length rs
        have m2 : ∃ u, H1 a = some u ∧ MutO u := by
          rcases q' with q' | ⟨q', _⟩
          · exact ⟨_, q', trivial⟩
          · exact ⟨_, q', trivial⟩
        obtain ⟨u0, q0, m0⟩ := m2
        refine .inr (.inr ⟨a, kvs', j, b, rfl, rfl, hb, q', by rw [← SZ_eq]; omega, kk _ F1 (Go.mutate g hp rfl rfl hu ⟨a, rfl, nf, .inr ⟨_, upd_same, ⟨?_, ?_⟩, RvT.mono (mk q0 m0) Ex.at1 (putK_T rs rd)⟩⟩)⟩)
        · unfold L2.putK
          split
          · rename_i hany
            intro z
            rw [List.map_eq_nil_iff] at z
            rw [z] at hany
            cases hany
          · intro z
            have := congrArg List.length z
            simp at this
        · have := putK_len kvs' j v
          omega
    · cases hs
  · cases hs
theorem ps_sti2 {es : List Expr} {xs : List CE} {x1 : Nat} {p2 : Pos} (ho : PE X o (tVar i)) (he : PE X e (TD X.K (ev g y))) (hi : PA X es (TV X.K (evs g xs))) (hl : xs.length ≤ 1000) (hu : X.A.units + 1 < cLine)
    (ha : ∀ v, assign (.Subscript o (.Tuple es x1 p2) ppos) X.env v = (do
      let ov ← holding [v] (eval o X.env)
      let iv ← holding [v, ov] (eval (.Tuple es x1 p2) X.env)
      standAt ppos
      holding [v, ov, iv] (setItem ov iv v)
      release [v, ov, iv] [])) (hs : swapsWithSole [.Subscript o (.Tuple es x1 p2) ppos] e pos.line X.env = pure false) (hw : swappedStores [.Subscript o (.Tuple es x1 p2) ppos] e X.env = pure none) :
    PS X (.Assign [.Subscript o (.Tuple es x1 p2) ppos] e pos) (TSm X.K pn (ex g pn (.sti i (.tup xs) y))) :=
  wkS (ps_asg he (pg_sub ho (pe_tup hi) (set_any hu) ha) hs hw rfl) fun D σ H ⟨F, r, fl, r', re, h, k⟩ => by
    rw [ex] at h
    simp only [Option.bind_eq_bind, Option.bind_eq_some_iff, Prod.exists] at h
    obtain ⟨d, r1, h1, p0, h0, ks, r2, h2, p, hp, p', hs', h3⟩ := h
    cases h3
    refine ⟨F, r, d, r1, re, h1, fun v H1 F1 g1 rr => ?_⟩
    obtain ⟨F2, g2, rv⟩ := g1.frz re rr
    obtain ⟨u, hu', _⟩ := g2.re.val i p0 h0
    refine ⟨u, hu', F2, r1, ks, r2, g2.re, h2, fun ws H3 F3 g3 rws => ?_⟩
    have l := RvA.length rws
    have lx := evs_len h2
    have hz : ws.length ≤ SZ := Nat.le_trans (by omega : ws.length ≤ 1000) (by decide)
    refine ⟨by rw [← SZ_eq]; exact hz, fun q hq => ?_⟩
    have gg := (g2.trans g3).wide (W' := Wn pn) fun _ z => z.elim
    have gg2 := gg.trans (Go.pure g3.re (Sub.new (u := .tup ws) hq))
    exact setT_to gg2 hp hs' hu' upd_same hz (rws.sub (.new hq)) ((rv.mono g2.re.mok g3.ex).sub (.new hq)) fun H' F' go => k σ H' F' go
end
end Mp
end

/-! ## MpPar -/
section
set_option linter.all false
set_option maxRecDepth 100000
/-! Mp: several names at once. -/
namespace Mp
open PySem PySem.Spec PyProof.Rows L2
/-- values, own ones new and unlike -/
inductive OOs (K : PySem.W.Frag) (F : Addr → Prop) (H : Hp) (r : En) (σ : L2.St) (H0 : Hp) : List O → List V → Prop
  | nil : OOs K F H r σ H0 [] []
  | cons {o : O} {v : V} {os : List O} {vs : List V} : RR K F H r σ H0 o v → (isOwn o = true → ∀ a, v = .ref a → ∀ (k : Nat) (o2 : O), os[k]? = some o2 → isOwn o2 = true → vs[k]? ≠ some (.ref a)) → OOs K F H r σ H0 os vs → OOs K F H r σ H0 (o :: os) (v :: vs)
section
variable {K : PySem.W.Frag} {F F' F1 : Addr → Prop} {H H' H0 H1 : Hp} {r r' r1 : En} {σ σ' σ1 : L2.St}
theorem OOs.dom {os : List O} {vs : List V} (h : OOs K F H r σ H1 os vs) (d : ∀ a, H1 a = none → H0 a = none) : OOs K F H r σ H0 os vs := by
  induction h with
  | nil => exact .nil
  | cons h1 h2 _ ih => exact .cons (h1.dom d) h2 ih
theorem OOs.new : ∀ {os : List O} {vs : List V} {k : Nat} {o : O} {a : Addr}, OOs K F H r σ H0 os vs → os[k]? = some o → isOwn o = true → vs[k]? = some (.ref a) → H0 a = none
  | _, _, _, _, _, .nil, h, _, _ => by simp at h
  | _, _, 0, _, _, .cons h1 _ _, h, w, e => by
    simp at h e
    subst h e
    exact (h1.2 w _ rfl).1
  | _, _, k + 1, _, _, .cons _ _ h3, h, w, e => OOs.new (k := k) h3 (by simpa using h) w (by simpa using e)
theorem OOs.len : ∀ {os : List O} {vs : List V}, OOs K F H r σ H0 os vs → os.length = vs.length
  | _, _, .nil => rfl
  | _, _, .cons _ _ h => congrArg Nat.succ h.len
end
def TOs (K : PySem.W.Frag) (f : En → Option (List O × En)) : TA := fun σ H Q => ∃ F r os r', RE K F H r σ ∧ f r = some (os, r') ∧ ∀ vs H' F', GoE K F H r σ F' H' r' → OOs K F' H' r' σ H os vs → Q vs H'
def sets (σ : L2.St) : List (Nat × V) → L2.St
  | [] => σ
  | (i, v) :: l => sets (σ.set i (some v)) l
theorem sets_comm : ∀ (l : List (Nat × V)) (σ : L2.St) (i : Nat) (v : V), i ∉ l.map (·.1) → sets (σ.set i (some v)) l = (sets σ l).set i (some v)
  | [], _, _, _, _ => rfl
  | (j, w) :: l, σ, i, v, h => by
    have h1 : i ≠ j := fun z => h (by rw [z]; exact List.mem_cons_self)
    have h2 : i ∉ l.map (·.1) := fun z => h (List.mem_cons_of_mem _ z)
    rw [sets, sets, List.set_comm _ _ h1, sets_comm l _ i v h2]
theorem sets_append (σ : L2.St) : ∀ (l m : List (Nat × V)), sets σ (l ++ m) = sets (sets σ l) m
  | [], _ => rfl
  | (i, v) :: l, m => by
    show sets (σ.set i (some v)) (l ++ m) = sets (sets (σ.set i (some v)) l) m
    exact sets_append _ l m
theorem sets_rev : ∀ (l : List (Nat × V)) (σ : L2.St), (l.map (·.1)).Nodup → sets σ l.reverse = sets σ l
  | [], _, _ => rfl
  | (i, v) :: l, σ, n => by
    rw [List.map_cons, List.nodup_cons] at n
    rw [List.reverse_cons, sets_append, sets_rev l σ n.2]
    show (sets σ l).set i (some v) = sets (σ.set i (some v)) l
    exact (sets_comm l σ i v n.1).symm
section
variable {K : PySem.W.Frag} {F F' F1 : Addr → Prop} {H H' H0 H1 : Hp} {r r' r1 : En} {σ σ' σ1 : L2.St} {W : Nat → Prop}
theorem Go.stores : ∀ {is : List Nat} {os : List O} {vs : List V} {r1 r2 : En} {σ1 : L2.St}, Go K W F H r σ F1 H1 r1 σ1 → (∀ i ∈ is, W i ∧ i < σ1.length) → setOs is os r1 = some r2 →
    (∀ (k : Nat) (o : O) (v : V), os[k]? = some o → vs[k]? = some v → RO K F1 H1 o v ∧ (isOwn o = true → ∀ a, v = .ref a → H a = none ∧ ¬ Ow r1 σ1 a)) →
    (∀ (k l : Nat) (o p : O) (a : Addr), os[k]? = some o → os[l]? = some p → isOwn o = true → isOwn p = true → vs[k]? = some (.ref a) → vs[l]? = some (.ref a) → k = l) → os.length = vs.length →
    Go K W F H r σ F1 H1 r2 (sets σ1 (is.zip vs))
  | [], [], vs, r1, r2, σ1, g, _, e, _, _, _ => by
    cases e
    exact g
  | [], _ :: _, _, _, _, _, _, _, e, _, _, _ => by cases e
  | _ :: _, [], _, _, _, _, _, _, e, _, _, _ => by cases e
  | i :: is, o :: os, [], r1, r2, σ1, g, hi, e, hv, hd, hl => by cases hl
  | i :: is, o :: os, v :: vs, r1, r2, σ1, g, hi, e, hv, hd, hl => by
    obtain ⟨wi, li⟩ := hi i List.mem_cons_self
    obtain ⟨ro, nw⟩ := hv 0 o v rfl rfl
    have g1 := g.store wi li ro nw
    rw [setOs] at e
    refine Go.stores (is := is) (os := os) (vs := vs) g1 (fun j hj => ⟨(hi j (List.mem_cons_of_mem _ hj)).1, by rw [List.length_set]; exact (hi j (List.mem_cons_of_mem _ hj)).2⟩) e (fun k p u hk hu => ?_) (fun k l p q a hk hl wk wl ek el => ?_) (by simpa using hl)
    · obtain ⟨ro2, nw2⟩ := hv (k + 1) p u (by simpa using hk) (by simpa using hu)
      refine ⟨ro2, fun w a z => ⟨(nw2 w a z).1, ?_⟩⟩
      rintro ⟨j, q, h1, h2, h3⟩
      rw [at_set] at h1
      split at h1
      · rename_i c
        cases h1
        obtain ⟨rfl, _⟩ := c
        rw [sig_set, if_pos ⟨rfl, li⟩] at h3
        cases h3
        subst z
        have := hd 0 (k + 1) o p a rfl (by simpa using hk) h2 w rfl (by simpa using hu)
        cases this
      · rename_i c
        have c' : ¬ (i = j ∧ i < σ1.length) := fun z => c ⟨z.1, by rw [g.re.len]; exact z.2⟩
        rw [sig_set, if_neg c'] at h3
        exact (nw2 w a z).2 ⟨j, q, h1, h2, h3⟩
    · have := hd (k + 1) (l + 1) p q a (by simpa using hk) (by simpa using hl) wk wl (by simpa using ek) (by simpa using el)
      omega
theorem OOs.facts : ∀ {os : List O} {vs : List V}, OOs K F H r σ H0 os vs → (∀ (k : Nat) (o : O) (v : V), os[k]? = some o → vs[k]? = some v → RR K F H r σ H0 o v) ∧
    (∀ (k l : Nat) (o p : O) (a : Addr), os[k]? = some o → os[l]? = some p → isOwn o = true → isOwn p = true → vs[k]? = some (.ref a) → vs[l]? = some (.ref a) → k = l)
  | _, _, .nil => ⟨fun _ _ _ h => by simp at h, fun _ _ _ _ _ h => by simp at h⟩
  | _, _, .cons h1 h2 h3 => by
    obtain ⟨f1, f2⟩ := OOs.facts h3
    refine ⟨fun k o v hk hv => ?_, fun k l o p a hk hl wk wl ek el => ?_⟩
    · cases k with
      | zero =>
        simp at hk hv
        subst hk hv
        exact h1
      | succ k => exact f1 k o v (by simpa using hk) (by simpa using hv)
    · cases k with
      | zero =>
        cases l with
        | zero => rfl
        | succ l =>
          simp at hk ek
          subst hk ek
          exact absurd (by simpa using el) (h2 wk a rfl l p (by simpa using hl) wl)
      | succ k =>
        cases l with
        | zero =>
          simp at hl el
          subst hl el
          exact absurd (by simpa using ek) (h2 wl a rfl k o (by simpa using hk) wk)
        | succ l => exact congrArg Nat.succ (f2 k l o p a (by simpa using hk) (by simpa using hl) wk wl (by simpa using ek) (by simpa using el))
end
section
variable {X : Cx} {pn : List Nat} {g : Ga} {pos pt pt2 : Pos} {e : Expr} {es : List Expr} {x : CE} {xs : List CE}
theorem pa_o0 : PA X [] (TOs X.K (evOs g [])) := wkA pa_nil fun σ H Q ⟨F, r, ds, r', re, he, k⟩ => by
  rw [evOs] at he
  cases he
  exact k [] H F (.refl re) .nil
theorem pa_o1 (he : PE X e (TD X.K (ev g x))) (hs : PA X es (TOs X.K (evOs g xs))) (n : notStar e = true) : PA X (e :: es) (TOs X.K (evOs g (x :: xs))) :=
  wkA (pa_cons he hs (star_cons n)) fun σ H Q ⟨F, r, ds, r', re, h, k⟩ => by
    simp only [evOs, Option.bind_eq_bind, Option.bind_eq_some_iff, Prod.exists] at h
    obtain ⟨o, r1, h1, ds1, r2, h2, h3⟩ := h
    cases h3
    refine ⟨F, r, o, r1, re, h1, fun v H1 F1 g1 rr => ⟨F1, r1, ds1, r', g1.re, h2, fun vs H3 F3 g3 oo => k (v :: vs) H3 F3 (g1.trans g3) (.cons (RR.go g1.re rr g3) (fun w a z k o2 hk w2 hv => ?_) (oo.dom g1.ex.dom))⟩⟩
    have h1a := oo.new hk w2 hv
    obtain ⟨b, eb, _, u, q, _⟩ := rr.1.mut w
    rw [z] at eb
    cases eb
    rw [q] at h1a
    cases h1a
/-- names, by place -/
inductive Nms (X : Cx) : List Expr → List Nat → Prop
  | nil : Nms X [] []
  | cons {y : Str} {p : Pos} {i : Nat} {ts : List Expr} {is : List Nat} : X.N[i]? = some y → Loc X.env.scope y → (X.fn y = true ∨ X.env.scope.names.lookup y = some .local) → Nms X ts is → Nms X (.Name y p :: ts) (i :: is)
def gN (is : List Nat) : TGs := fun vs σ H Q => vs.length = is.length ∧ Q (sets σ (is.zip vs)) H
theorem pgs_n (hN : X.N.Nodup) : ∀ {ts : List Expr} {is : List Nat}, Nms X ts is → PGs X ts (gN is)
  | _, _, .nil => wkGs pgs_nil fun vs σ H Q ⟨h1, h2⟩ => by
    cases vs with
    | nil => exact ⟨rfl, h2⟩
    | cons _ _ => cases h1
  | _, _, .cons h1 h2 h3 h4 => wkGs (pgs_cons (pg_name hN h1 h2 h3) (pgs_n hN h4) rfl) fun vs σ H Q ⟨k1, k2⟩ => by
    cases vs with
    | nil => cases k1
    | cons v vs => exact ⟨v, vs, rfl, by simpa using k1, k2⟩
theorem nms_each : ∀ {ts : List Expr} {is : List Nat}, Nms X ts is → (assignEach ts X.env).length = is.length ∧ (assignEach ts X.env).findIdx? (·.1) = none
  | _, _, .nil => ⟨rfl, rfl⟩
  | _, _, .cons _ _ _ h => by
    obtain ⟨a, b⟩ := nms_each h
    refine ⟨congrArg Nat.succ a, ?_⟩
    show List.findIdx? (·.1) ((false, _) :: assignEach _ X.env) = none
    rw [List.findIdx?_cons]
    simp [b]
def nmOf : List Expr → List Str
  | .Name y _ :: ts => y :: nmOf ts
  | _ :: ts => nmOf ts
  | [] => []
/-- a name, its place, what it is to hold -/
abbrev NQ := Str × Nat × V × Value
def NqOk (X : Cx) (q : NQ) : Prop := X.N[q.2.1]? = some q.1 ∧ Loc X.env.scope q.1 ∧ (X.fn q.1 = true ∨ X.env.scope.names.lookup q.1 = some .local) ∧ RelV q.2.2.1 q.2.2.2
theorem nq_of : ∀ {ts : List Expr} {is : List Nat} {vs : List V} {us : List Value}, Nms X ts is → Vals vs us → vs.length = is.length →
    ∃ L : List NQ, (∀ q ∈ L, NqOk X q) ∧ L.map (·.1) = nmOf ts ∧ L.map (fun q => q.2.2.2) = us ∧ L.map (fun q => (q.2.1, q.2.2.1)) = is.zip vs
  | _, _, [], _, .nil, .nil, _ => ⟨[], fun _ h => (nomatch h), rfl, rfl, rfl⟩
  | _, _, _, _, .nil, .cons _ _, h => by cases h
  | _, _, _, _, .cons _ _ _ _, .nil, h => by cases h
  | _, _, _, _, .cons h1 h2 h3 h4, .cons r rr, h => by
    obtain ⟨L, l1, l2, l3, l4⟩ := nq_of h4 rr (by simpa using h)
    exact ⟨(_, _, _, _) :: L, fun q hq => by
      rcases List.mem_cons.mp hq with rfl | hq
      · exact ⟨h1, h2, h3, r⟩
      · exact l1 q hq, by simp [nmOf, l2], by simp [l3], by simp [l4]⟩
theorem nq_run (hN : X.N.Nodup) {pins : List (Addr × Obj)} {H : Hp} {Q : Unit → Shared → Prop} {E : Value → Shared → Prop} : ∀ (L : List NQ) (s : Shared) (σ : L2.St), Inv X pins σ H s → (∀ q ∈ L, NqOk X q) →
    (∀ s', Inv X pins (sets σ (L.map fun q => (q.2.1, q.2.2.1))) H s' → Q () s') → wpAny (model X.prog X.w) X.A (assignInOrder (L.map fun q => fun v => bindName X.env q.1 v) (L.map fun q => q.2.2.2)) Q E s
  | [], s, σ, I, _, k => assignInOrder_nil (k s I)
  | q :: L, s, σ, I, h, k => by
    obtain ⟨h1, h2, h3, h4⟩ := h q List.mem_cons_self
    refine assignInOrder_cons (wpAny_bindName (store_ok I hN h1 h2 h4 (fun s2 I2 => ?_) h3))
    exact nq_run hN L s2 _ I2 (fun q hq => h q (List.mem_cons_of_mem _ hq)) k
theorem ps_par' {ts : List Expr} {is : List Nat} {kt k2 : Nat} (hc : X.calm = true) (hN : X.N.Nodup) (nm : Nms X ts is) (ha : PA X es (TOs X.K (evOs g xs))) (hl : xs.length ≤ 1000)
    (hw : swappedStores [.Tuple ts kt pt] (.Tuple es k2 pt2) X.env = pure none ∨ swappedStores [.Tuple ts kt pt] (.Tuple es k2 pt2) X.env = pure (some (nmOf ts))) :
    PS X (.Assign [.Tuple ts kt pt] (.Tuple es k2 pt2) pos) (TSm X.K pn (ex g pn (.par is xs))) := by
  refine ⟨fun pins s σ H D I ⟨F, r, fl, r', re, h, k⟩ => ?_⟩
  rw [ex] at h
  split at h
  · cases h
  · rename_i hcnd
    simp only [Bool.or_eq_true, not_or, Bool.not_eq_true', decide_eq_false_iff_not, Classical.not_not, Bool.not_eq_true] at hcnd
    obtain ⟨hp, nd⟩ := hcnd
    simp only [Option.bind_eq_bind, Option.bind_eq_some_iff, Prod.exists] at h
    obtain ⟨os, r1, h1, r2, h2, h3⟩ := h
    cases h3
    have lo : os.length = xs.length := evOs_len h1
    have li : is.length = os.length := setOs_len h2
    have fin : ∀ vs H1 F1, GoE X.K F H r σ F1 H1 r1 → OOs X.K F1 H1 r1 σ H os vs → D.nx (sets σ (is.zip vs)) H1 := fun vs H1 F1 g1 oo => by
      obtain ⟨f1, f2⟩ := oo.facts
      refine k _ H1 F1 (Go.stores (g1.wide fun _ z => z.elim) (fun i hi => ⟨?_, ?_⟩) h2 (fun k o v hk hv => f1 k o v hk hv) f2 oo.len)
      · intro z
        have : is.any pn.contains = true := List.any_eq_true.mpr ⟨i, hi, by simpa using z⟩
        rw [this] at hp
        cases hp
      · rw [I.len]
        exact nms_lt nm hi
    rcases hw with hw | hw
    · refine (ps_asg (pe_tup ha) (pg_tup (n := is.length) hc (pgs_n hN nm) (nms_each nm).1 (nms_each nm).2) rfl hw rfl).run pins s σ H D I ⟨F, r, os, r1, re, h1, fun vs H1 F1 g1 oo => ⟨?_, fun q hq => ?_⟩⟩
      · rw [← oo.len, lo, ← SZ_eq]
        exact Nat.le_trans hl (by decide)
      · have l := oo.len
        refine ⟨q, vs, rfl, .of upd_same, by omega, by omega, ?_⟩
        have g2 : GoE X.K F H r σ F1 (upd H1 q (.tup vs)) r1 := g1.trans (Go.pure g1.re (Sub.new hq))
        exact fin vs _ F1 g2 (oo_go (Sub.new hq) oo)
    · rw [exec_Assign_arm]
      refine wpAny_bind (wpAny_standAt ?_)
      show wpAny _ _ ((pure false : Sem Bool) >>= _) _ _ _
      refine wpAny_bind (wpAny_pure ?_)
      rw [if_neg (by decide)]
      refine wpAny_bind (Tuple_ (thn (ha.run _ pins s σ H _ I ⟨F, r, os, r1, re, h1, fun vs H1 F1 g1 oo => (⟨by have := oo.len; omega, fin vs H1 F1 g1 oo⟩ : vs.length = is.length ∧ D.nx (sets σ (is.zip vs)) H1)⟩) fun us s1 ⟨vs, H1, I1, rv, hlv, q1⟩ => ?_))
      have lu := rv.length
      refine wpAny_newObj_type ?_ (by
        show us.toArray.size ≤ sizeLine
        rw [List.size_toArray, ← lu, hlv, li, lo, ← SZ_eq]
        exact Nat.le_trans hl (by decide))
      have I2 : Inv X pins σ H1 { s1 with heap := s1.heap.push { cls := .type "tuple", data := .seq us.toArray } } := I1.kept (t' := s1.toks) fun b o e => Heap.get?_push_of_some _ e
      rw [hw]
      refine wpAny_bind (wpAny_pure ?_)
      show wpAny (model X.prog X.w) X.A (do rule "assign.swapped-stores"; let items ← unpackItems (.ref s1.heap.objs.size) (nmOf ts).length none; assignInOrder ((nmOf ts).reverse.map fun n => bindName X.env n) items.reverse; pure Flow.next) _ _ _
      obtain ⟨L, l1, l2, l3, l4⟩ := nq_of nm rv hlv
      have en : (nmOf ts).length = us.toArray.size := by
        rw [← l2, ← l3]
        simp
      rw [en]
      refine wpAny_bind (wpAny_rule (wpAny_bind (unpackItems_tuple (items := us.toArray) (I.ok.hd hc) (IsTup.new s1.heap _) fun h' hx' => ?_)))
      have I3 := I2.kept (h' := h') (t' := s1.toks) fun b o e => hx' b o (Nat.ne_of_lt (Heap.lt_size e)) e
      have e1 : ((nmOf ts).reverse.map fun n => bindName X.env n) = L.reverse.map fun q => fun v => bindName X.env q.1 v := by
        rw [← l2, ← List.map_reverse, List.map_map]
        rfl
      have e2 : us.toArray.toList.reverse = L.reverse.map fun q => q.2.2.2 := by
        rw [List.map_reverse, l3]
      rw [e1, e2]
      refine wpAny_bind (nq_run hN L.reverse _ σ I3 (fun q hq => l1 q (List.mem_reverse.mp hq)) fun s' I' => wpAny_pure ⟨_, H1, ?_, q1⟩)
      have e3 : sets σ (L.reverse.map fun q => (q.2.1, q.2.2.1)) = sets σ (is.zip vs) := by
        rw [List.map_reverse, l4, sets_rev]
        rw [List.map_fst_zip (by omega)]
        exact nd
      rw [e3] at I'
      exact I'
where
  evOs_len : ∀ {xs : List CE} {r r' : En} {os : List O}, evOs g xs r = some (os, r') → os.length = xs.length
  | [], _, _, _, h => by
    rw [evOs] at h
    cases h
    rfl
  | x :: xs, _, _, _, h => by
    simp only [evOs, Option.bind_eq_bind, Option.bind_eq_some_iff, Prod.exists] at h
    obtain ⟨o, r1, h1, ds1, r2, h2, h3⟩ := h
    cases h3
    exact congrArg Nat.succ (evOs_len h2)
  setOs_len : ∀ {is : List Nat} {os : List O} {r r' : En}, setOs is os r = some r' → is.length = os.length
  | [], [], _, _, _ => rfl
  | [], _ :: _, _, _, h => by cases h
  | _ :: _, [], _, _, h => by cases h
  | i :: is, o :: os, r, r', h => by
    rw [setOs] at h
    exact congrArg Nat.succ (setOs_len h)
  nms_lt : ∀ {ts : List Expr} {is : List Nat} {i : Nat}, Nms X ts is → i ∈ is → i < X.N.length
  | _, _, _, .nil, h => by cases h
  | _, _, _, .cons h1 _ _ h4, h => by
    rcases List.mem_cons.mp h with rfl | h
    · exact (List.getElem?_eq_some_iff.mp h1).1
    · exact nms_lt h4 h
  oo_go {F1 : Addr → Prop} {H1 H2 H : Hp} {r1 : En} {σ : L2.St} (sub : Sub H1 H2) : ∀ {os : List O} {vs : List V}, OOs X.K F1 H1 r1 σ H os vs → OOs X.K F1 H2 r1 σ H os vs
  | _, _, .nil => .nil
  | _, _, .cons h1 h2 h3 => .cons ⟨h1.1.mono Mok.none sub.ex fun _ _ _ z => z, h1.2⟩ h2 (oo_go sub h3)
end
end Mp
end

/-! ## MpBlt -/
section
set_option linter.all false
set_option maxRecDepth 100000
/-! Mp: built-in functions: their rules. -/
namespace Mp
open PySem PySem.Spec PyProof.Rows L2
section
variable {K : PySem.W.Frag} {F : Addr → Prop} {H : Hp}
theorem ROs.one {o : O} {vs : List V} (h : ROs K F H [o] vs) : ∃ v, vs = [v] ∧ RO K F H o v := by
  cases h with
  | cons h1 h2 =>
    cases h2
    exact ⟨_, rfl, h1⟩
theorem ROs.two {o p : O} {vs : List V} (h : ROs K F H [o, p] vs) : ∃ v u, vs = [v, u] ∧ RO K F H o v ∧ RO K F H p u := by
  cases h with
  | cons h1 h2 =>
    cases h2 with
    | cons h2 h3 =>
      cases h3
      exact ⟨_, _, rfl, h1, h2⟩
theorem ints_of : ∀ {ds : List D} {vs : List V} {is : List Int}, RvA K F H vs ds → intsOf ds = some is → vs = is.map V.int ∧ ds = is.map .int
  | [], _, _, h, e => by
    cases h
    cases e
    exact ⟨rfl, rfl⟩
  | d :: ds, _, is, h, e => by
    cases h with
    | cons h1 h2 =>
      cases d with
      | int i =>
        simp only [intsOf, Option.map_eq_some_iff] at e
        obtain ⟨js, e1, rfl⟩ := e
        obtain ⟨q1, q2⟩ := ints_of h2 e1
        cases Rv.intE h1
        exact ⟨by rw [q1]; rfl, by rw [q2]; rfl⟩
      | _ => cases e
theorem bools_of : ∀ {ds : List D} {vs : List V} {is : List Bool}, RvA K F H vs ds → boolsOf ds = some is → vs = is.map V.bl
  | [], _, _, h, e => by
    cases h
    cases e
    rfl
  | d :: ds, _, is, h, e => by
    cases h with
    | cons h1 h2 =>
      cases d with
      | bool i =>
        simp only [boolsOf, Option.map_eq_some_iff] at e
        obtain ⟨js, e1, rfl⟩ := e
        cases Rv.blE h1
        rw [bools_of h2 e1]
        rfl
      | _ => cases e
theorem ints_rv : ∀ is : List Int, RvA K F H (is.map V.int) (is.map .int)
  | [] => .nil
  | i :: is => .cons (.int i) (ints_rv is)
end
section
variable {X : Cx}
theorem call_one {fv : Value} {f : O → Option O} (h : ∀ v H Q F o q, Dom F H → RO X.K F H o v → f o = some q → Out X.K F H q Q → ∃ r, CallR X fv r ∧ r [v] H Q) : CallR X fv (RRn X.K (one f)) := by
  intro pins s σ H xs us Q I rv ⟨F, os, q, d, ro, e, k⟩
  unfold one at e
  split at e
  · obtain ⟨v, rfl, r1⟩ := ro.one
    obtain ⟨r, h1, h2⟩ := h v H Q F _ q d r1 e k
    exact h1 pins s σ H _ us Q I rv h2
  · cases e
theorem call_two {fv : Value} {f : O → O → Option O} (h : ∀ v u H Q F o p q, Dom F H → RO X.K F H o v → RO X.K F H p u → f o p = some q → Out X.K F H q Q → ∃ r, CallR X fv r ∧ r [v, u] H Q) : CallR X fv (RRn X.K (two f)) := by
  intro pins s σ H xs us Q I rv ⟨F, os, q, d, ro, e, k⟩
  unfold two at e
  split at e
  · obtain ⟨v, u, rfl, r1, r2⟩ := ro.two
    obtain ⟨r, h1, h2⟩ := h v u H Q F _ _ q d r1 r2 e k
    exact h1 pins s σ H _ us Q I rv h2
  · cases e
theorem cb_abs : CallR X (.builtin "abs") (RRn X.K (blO .abs)) := call_one fun v H Q F o q d ro e k => by
  unfold absO at e
  split at e
  · cases e
    cases Rv.intE ro
    exact ⟨_, call_abs, _, rfl, k.val (.int _)⟩
  · cases e
theorem cb_int : CallR X (.type "int") (RRn X.K (blO .int)) := call_one fun v H Q F o q d ro e k => by
  unfold intB at e
  split at e
  · cases e
    cases Rv.intE ro
    exact ⟨_, call_int1, .inl ⟨_, rfl, k.val (.int _)⟩⟩
  · cases e
    cases Rv.blE ro
    exact ⟨_, call_int1, .inr ⟨_, rfl, k.val (.int _)⟩⟩
  · cases e
theorem RvK.lenD {K : PySem.W.Frag} {F : Addr → Prop} {H : Hp} {kvs : List (Key × V)} {ds : List (D × D)} (h : RvK K F H kvs ds) : kvs.length = ds.length := RvK.length h
theorem cb_len : CallR X (.builtin "len") (RRn X.K (blO .len)) := call_one fun v H Q F o q d ro e k => by
  simp only [Option.map_eq_some_iff] at e
  obtain ⟨n, e, rfl⟩ := e
  unfold lenO at e
  split at e
  · cases e
    obtain ⟨rfl, so, sz⟩ := Rv.strE ro
    exact ⟨_, call_len_str, _, rfl, by rw [← SZ_eq]; exact sz, k.val (.int _)⟩
  · split at e
    · rename_i kvs hk
      cases e
      obtain ⟨a, rfl, ⟨ks, h1, h2, h3⟩ | ⟨ks, h1, h2, h3⟩⟩ := ro.dct hk
      · refine ⟨_, call_lenD, a, ks, rfl, h1, ?_⟩
        rw [RvK.length h3]
        exact k.val (.int _)
      · refine ⟨_, call_len_dT, a, ks, rfl, h1, ?_⟩
        rw [RvT.length h3]
        exact k.val (.int _)
    · simp only [Option.map_eq_some_iff] at e
      obtain ⟨xs, e, rfl⟩ := e
      obtain ⟨a, vs, rfl, h1, h2, h3⟩ := ro.seq e
      refine ⟨_, call_len_seq, a, vs, rfl, h1, ?_⟩
      rw [RvA.length h3]
      exact k.val (.int _)
theorem onInts_of {F : Addr → Prop} {H : Hp} {o q : O} {v : V} {f : List Int → Option O} (ro : RO X.K F H o v) (e : onInts f o = some q) : ∃ a is, v = .ref a ∧ SqL X.K H a (is.map V.int) ∧ is.length ≤ SZ ∧ f is = some q := by
  unfold onInts at e
  split at e
  · rename_i xs hx
    split at e
    · rename_i is hi
      obtain ⟨a, vs, rfl, h1, h2, h3⟩ := ro.lst hx
      obtain ⟨rfl, _⟩ := ints_of h3 hi
      exact ⟨a, is, rfl, h1, by simpa using h2, e⟩
    · cases e
  · cases e
theorem onBools_of {F : Addr → Prop} {H : Hp} {o q : O} {v : V} {f : List Bool → Bool} (ro : RO X.K F H o v) (e : onBools f o = some q) : ∃ a bs, v = .ref a ∧ SqL X.K H a (bs.map V.bl) ∧ q = .v (.bool (f bs)) := by
  unfold onBools at e
  split at e
  · rename_i xs hx
    simp only [Option.map_eq_some_iff] at e
    obtain ⟨bs, hb, rfl⟩ := e
    obtain ⟨a, vs, rfl, h1, h2, h3⟩ := ro.lst hx
    cases bools_of h3 hb
    exact ⟨a, bs, rfl, h1, rfl⟩
  · cases e
theorem cb_sum (hc : X.calm = true) : CallR X (.builtin "sum") (RRn X.K (blO .sum)) := call_one fun v H Q F o q d ro e k => by
  obtain ⟨a, is, rfl, h1, _, h2⟩ := onInts_of ro e
  cases h2
  exact ⟨_, cr_sum hc, a, is, rfl, h1, k.val (.int _)⟩
theorem cb_all (hc : X.calm = true) : CallR X (.builtin "all") (RRn X.K (blO .all)) := call_one fun v H Q F o q d ro e k => by
  obtain ⟨a, bs, rfl, h1, rfl⟩ := onBools_of ro e
  exact ⟨_, cr_all hc, a, bs, rfl, h1, k.val (.bl _)⟩
theorem cb_any (hc : X.calm = true) : CallR X (.builtin "any") (RRn X.K (blO .any)) := call_one fun v H Q F o q d ro e k => by
  obtain ⟨a, bs, rfl, h1, rfl⟩ := onBools_of ro e
  exact ⟨_, cr_any hc, a, bs, rfl, h1, k.val (.bl _)⟩
theorem foldl_min : ∀ (l : List Int) (x : Int), (l.foldl min x ≤ x ∧ ∀ y ∈ l, l.foldl min x ≤ y) ∧ (l.foldl min x = x ∨ l.foldl min x ∈ l)
  | [], x => ⟨⟨Int.le_refl _, fun _ h => nomatch h⟩, .inl rfl⟩
  | a :: l, x => by
    obtain ⟨⟨h1, h2⟩, h3⟩ := foldl_min l (min x a)
    show (l.foldl min (min x a) ≤ x ∧ ∀ y ∈ a :: l, l.foldl min (min x a) ≤ y) ∧ (l.foldl min (min x a) = x ∨ l.foldl min (min x a) ∈ a :: l)
    refine ⟨⟨by omega, fun y hy => ?_⟩, ?_⟩
    · rcases List.mem_cons.mp hy with rfl | hy
      · omega
      · exact h2 y hy
    · rcases h3 with h3 | h3
      · rw [h3]
        by_cases c : x ≤ a
        · exact .inl (by omega)
        · exact .inr (by rw [show min x a = a from by omega]; exact List.mem_cons_self)
      · exact .inr (List.mem_cons_of_mem _ h3)
theorem foldl_max : ∀ (l : List Int) (x : Int), (x ≤ l.foldl max x ∧ ∀ y ∈ l, y ≤ l.foldl max x) ∧ (l.foldl max x = x ∨ l.foldl max x ∈ l)
  | [], x => ⟨⟨Int.le_refl _, fun _ h => nomatch h⟩, .inl rfl⟩
  | a :: l, x => by
    obtain ⟨⟨h1, h2⟩, h3⟩ := foldl_max l (max x a)
    show (x ≤ l.foldl max (max x a) ∧ ∀ y ∈ a :: l, y ≤ l.foldl max (max x a)) ∧ (l.foldl max (max x a) = x ∨ l.foldl max (max x a) ∈ a :: l)
    refine ⟨⟨by omega, fun y hy => ?_⟩, ?_⟩
    · rcases List.mem_cons.mp hy with rfl | hy
      · omega
      · exact h2 y hy
    · rcases h3 with h3 | h3
      · rw [h3]
        by_cases c : a ≤ x
        · exact .inl (by omega)
        · exact .inr (by rw [show max x a = a from by omega]; exact List.mem_cons_self)
      · exact .inr (List.mem_cons_of_mem _ h3)
theorem cb_min1 (hc : X.calm = true) : CallR X (.builtin "min") (RRn X.K (blO .min1)) := call_one fun v H Q F o q d ro e k => by
  obtain ⟨a, is, rfl, h1, _, h2⟩ := onInts_of ro e
  simp only [Option.map_eq_some_iff] at h2
  obtain ⟨m, hm, rfl⟩ := h2
  cases is with
  | nil => cases hm
  | cons x l =>
    have hm : l.foldl min x = m := Option.some.inj hm
    subst hm
    obtain ⟨⟨f1, f2⟩, f3⟩ := foldl_min l x
    refine ⟨_, cr_min hc, a, x :: l, rfl, h1, Nat.succ_pos _, fun m h3 h4 => ?_⟩
    have : m = l.foldl min x := by
      have mem : l.foldl min x ∈ x :: l := by
        rcases f3 with z | z
        · rw [z]
          exact List.mem_cons_self
        · exact List.mem_cons_of_mem _ z
      have a1 := h4 (l.foldl min x) mem
      have a2 : l.foldl min x ≤ m := by
        rcases List.mem_cons.mp h3 with rfl | h3
        · exact f1
        · exact f2 m h3
      omega
    rw [this]
    exact k.val (.int _)
theorem cb_max1 (hc : X.calm = true) : CallR X (.builtin "max") (RRn X.K (blO .max1)) := call_one fun v H Q F o q d ro e k => by
  obtain ⟨a, is, rfl, h1, _, h2⟩ := onInts_of ro e
  simp only [Option.map_eq_some_iff] at h2
  obtain ⟨m, hm, rfl⟩ := h2
  cases is with
  | nil => cases hm
  | cons x l =>
    have hm : l.foldl max x = m := Option.some.inj hm
    subst hm
    obtain ⟨⟨f1, f2⟩, f3⟩ := foldl_max l x
    refine ⟨_, cr_max hc, a, x :: l, rfl, h1, Nat.succ_pos _, fun m h3 h4 => ?_⟩
    have : m = l.foldl max x := by
      have mem : l.foldl max x ∈ x :: l := by
        rcases f3 with z | z
        · rw [z]
          exact List.mem_cons_self
        · exact List.mem_cons_of_mem _ z
      have a1 := h4 (l.foldl max x) mem
      have a2 : m ≤ l.foldl max x := by
        rcases List.mem_cons.mp h3 with rfl | h3
        · exact f1
        · exact f2 m h3
      omega
    rw [this]
    exact k.val (.int _)
theorem cb_tuple : CallR X (.type "tuple") (RRn X.K (blO .tuple)) := call_one fun v H Q F o q d ro e k => by
  simp only [Option.map_eq_some_iff] at e
  obtain ⟨xs, e, rfl⟩ := e
  obtain ⟨a, vs, rfl, h1, h2, h3⟩ := ro.seq e
  refine ⟨_, call_tuple_of, a, vs, rfl, ?_⟩
  rcases h1 with h1 | h1
  · exact .inl ⟨h1, fun p hp => k.tnew h3 h2 hp⟩
  · exact .inr ⟨h1, k.val (.tup h1 h2 h3)⟩
theorem cb_list : CallR X (.type "list") (RRn X.K (blO .list)) := call_one fun v H Q F o q d ro e k => by
  simp only [Option.map_eq_some_iff] at e
  obtain ⟨xs, e, rfl⟩ := e
  obtain ⟨a, vs, rfl, h1, h2, h3⟩ := ro.seq e
  exact ⟨_, call_list_of, a, vs, rfl, h1, fun p hp => k.lnew d h3 h2 hp⟩
theorem rc_lt {prog : Program} {w : World} {A : Around} {E : Value → Shared → Prop} {s : Shared} {x y : Str} {t u : Tok} {Q : Value → Shared → Prop} (h : Q (.bool (decide (x.cps.toList < y.cps.toList))) s) : wpAny (model prog w) A (richCompare .Lt (.str x t) (.str y u)) Q E s := by
  have e : richCompare .Lt (.str x t) (.str y u) = compareOp .Lt (.str x t) (.str y u) := by
    unfold compareOp
    rfl
  rw [e]
  exact PySem.P.lt_str h
theorem rc_gt {prog : Program} {w : World} {A : Around} {E : Value → Shared → Prop} {s : Shared} {x y : Str} {t u : Tok} {Q : Value → Shared → Prop} (h : Q (.bool (decide (y.cps.toList < x.cps.toList))) s) : wpAny (model prog w) A (richCompare .Gt (.str x t) (.str y u)) Q E s := by
  have e : richCompare .Gt (.str x t) (.str y u) = compareOp .Gt (.str x t) (.str y u) := by
    unfold compareOp
    rfl
  rw [e]
  exact PySem.P.gt_str h
/-- two texts: which is chosen -/
theorem two_strs {op : CmpOp} {prog : Program} {w : World} {A : Around} {E : Value → Shared → Prop} {s : Shared} {x y : Str} {t u : Tok} {Q : Value → Shared → Prop} {bt : Str → Str → Bool} {id : String} (hh : A.handled = none)
    (cmp : ∀ (a b : Str) (t u : Tok) (A : Around) (s : Shared) (Q : Value → Shared → Prop) (E : Value → Shared → Prop), Q (.bool (bt a b)) s → wpAny (model prog w) A (richCompare op (.str a t) (.str b u)) Q E s)
    (rule : ∀ {a b : Value} {Q : Value → Shared → Prop}, wpAny (model prog w) A.in1 (pyIter (.ref s.heap.objs.size)) (fun it s₂ => ∃ I fp wr n P St bt, it = .ref I ∧ Walks prog w A.in1 I fp wr n P St ∧ St 0 s₂.heap ∧ (∀ b ∈ fp, b < s₂.heap.objs.size) ∧ 0 < n ∧ CmpOf prog w A.in1 op P bt ∧
      ∀ v h' tk, P (argBest bt (n - 1)) v → (∀ b o, b ∉ wr → s₂.heap.get? b = some o → h'.get? b = some o) → Q v { s₂ with heap := h', toks := tk }) E
      { s with heap := s.heap.push { cls := .type "tuple", data := .seq #[a, b] } } → wpAny (model prog w) A (call (.builtin id) [a, b]) Q E s)
    (h : ∀ h' tk, (∀ c o, s.heap.get? c = some o → h'.get? c = some o) → Q (if bt y x = true then .str y u else .str x t) { s with heap := h', toks := tk }) : wpAny (model prog w) A (call (.builtin id) [.str x t, .str y u]) Q E s := by
  have hT : (s.heap.push { cls := .type "tuple", data := .seq #[.str x t, .str y u] }).IsTuple s.heap.objs.size #[.str x t, .str y u] := ⟨_, Heap.get?_push_size _ rfl, rfl, 0, rfl⟩
  refine rule (wpAny_pyIter_tuple hT ?_)
  have hsz : (s.heap.push { cls := .type "tuple", data := .seq #[.str x t, .str y u] }).objs.size = s.heap.objs.size + 1 := Heap.size_push ..
  refine ⟨_, [_, s.heap.objs.size], [_], 2, _, _, fun i j => bt (if i = 0 then x else y) (if j = 0 then x else y), rfl, Walks.tuple (A := A.in1) hh _ s.heap.objs.size (by rw [hsz]; exact Nat.ne_of_lt (Nat.lt_succ_self _)) #[.str x t, .str y u],
    ⟨⟨_, Heap.get?_push_size _ rfl, rfl, rfl⟩, hT.push _⟩, fun c hc => ?_, by decide, fun i j vi vj s' Q' E' hi hj hq => ?_, fun v h' tk hP hk => ?_⟩
  · show c < ((s.heap.push _).push _).objs.size
    rw [Heap.size_push, hsz]
    rcases List.mem_cons.mp hc with rfl | hc
    · rw [hsz]; exact Nat.lt_succ_self _
    · rcases List.mem_cons.mp hc with rfl | hc
      · exact Nat.lt_succ_of_lt (Nat.lt_succ_self _)
      · cases hc
  · have val : ∀ (i : Nat) (v : Value), (#[Value.str x t, Value.str y u] : Array Value)[i]? = some v → ∃ tk, v = .str (if i = 0 then x else y) tk := fun i v hv => by
      match i, hv with
      | 0, hv => exact ⟨t, (Option.some.inj hv).symm⟩
      | 1, hv => exact ⟨u, (Option.some.inj hv).symm⟩
      | n + 2, hv => simp at hv
    obtain ⟨t1, rfl⟩ := val i vi hi
    obtain ⟨t2, rfl⟩ := val j vj hj
    exact cmp _ _ _ _ _ _ _ _ hq
  · have hold : ∀ c o, s.heap.get? c = some o → h'.get? c = some o := fun c o e => by
      refine hk c o (fun hm => ?_) (Heap.get?_push_of_some _ (Heap.get?_push_of_some _ e))
      rcases List.mem_cons.mp hm with e1 | hm
      · have := Heap.lt_size e; rw [e1, hsz] at this; exact Nat.lt_irrefl _ (Nat.lt_of_succ_lt this)
      · cases hm
    have := h h' tk hold
    have hv : v = if bt y x = true then Value.str y u else Value.str x t := by
      have hP' : (#[Value.str x t, Value.str y u] : Array Value)[if bt y x = true then 1 else 0]? = some v := hP
      by_cases c : bt y x = true
      · rw [if_pos c] at hP' ⊢
        exact (Option.some.inj hP').symm
      · rw [if_neg c] at hP' ⊢
        exact (Option.some.inj hP').symm
    rw [hv]
    exact this
theorem min2O_of {a b q : O} (e : min2O a b = some q) : (∃ i j, a = .v (.int i) ∧ b = .v (.int j) ∧ q = .v (.int (if j < i then j else i))) ∨ ∃ x y : Str, a = .v (.str x) ∧ b = .v (.str y) ∧ q = .v (.str (if y.cps.toList < x.cps.toList then y else x)) := by
  unfold min2O at e
  split at e
  · exact .inl ⟨_, _, rfl, rfl, (Option.some.inj e).symm⟩
  · exact .inr ⟨_, _, rfl, rfl, (Option.some.inj e).symm⟩
  · cases e
theorem cb_min2 (hc : X.calm = true) : CallR X (.builtin "min") (RRn X.K (blO .min2)) := by
  intro pins s σ H xs us Q I rv ⟨F, os, q, d, ro, e, k⟩
  replace e : two min2O os = some q := e
  unfold two at e
  split at e
  · obtain ⟨v, u, rfl, r1, r2⟩ := ro.two
    rcases min2O_of e with ⟨i, j, rfl, rfl, rfl⟩ | ⟨x, y, rfl, rfl, rfl⟩
    · cases Rv.intE r1
      cases Rv.intE r2
      exact call_min2 hc pins s σ H _ us Q I rv ⟨_, _, rfl, k.val (.int _)⟩
    · obtain ⟨rfl, a1, a2⟩ := Rv.strE r1
      obtain ⟨rfl, b1, b2⟩ := Rv.strE r2
      obtain ⟨w1, w2, rfl, ⟨t, rfl⟩, ⟨t', rfl⟩⟩ := vals2 rv
      have fin : Q (.str (if y.cps.toList < x.cps.toList then y else x)) H := k.val (by
        split
        · exact .str _ b1 b2
        · exact .str _ a1 a2)
      refine two_strs (bt := fun a b => decide (a.cps.toList < b.cps.toList)) (I.ok.hd hc) (fun a b t u A s Q E h => rc_lt h) call_min_two fun h' tk kp => ?_
      refine ⟨.str (if y.cps.toList < x.cps.toList then y else x), H, I.kept kp, ?_, fin⟩
      by_cases c : y.cps.toList < x.cps.toList
      · rw [if_pos c, if_pos (by simpa using c)]
        exact ⟨_, rfl⟩
      · rw [if_neg c, if_neg (by simpa using c)]
        exact ⟨_, rfl⟩
  · cases e
theorem max2O_of {a b q : O} (e : max2O a b = some q) : (∃ i j, a = .v (.int i) ∧ b = .v (.int j) ∧ q = .v (.int (if j > i then j else i))) ∨ ∃ x y : Str, a = .v (.str x) ∧ b = .v (.str y) ∧ q = .v (.str (if x.cps.toList < y.cps.toList then y else x)) := by
  unfold max2O at e
  split at e
  · exact .inl ⟨_, _, rfl, rfl, (Option.some.inj e).symm⟩
  · exact .inr ⟨_, _, rfl, rfl, (Option.some.inj e).symm⟩
  · cases e
theorem cb_max2 (hc : X.calm = true) : CallR X (.builtin "max") (RRn X.K (blO .max2)) := by
  intro pins s σ H xs us Q I rv ⟨F, os, q, d, ro, e, k⟩
  replace e : two max2O os = some q := e
  unfold two at e
  split at e
  · obtain ⟨v, u, rfl, r1, r2⟩ := ro.two
    rcases max2O_of e with ⟨i, j, rfl, rfl, rfl⟩ | ⟨x, y, rfl, rfl, rfl⟩
    · cases Rv.intE r1
      cases Rv.intE r2
      exact call_max2 hc pins s σ H _ us Q I rv ⟨_, _, rfl, k.val (.int _)⟩
    · obtain ⟨rfl, a1, a2⟩ := Rv.strE r1
      obtain ⟨rfl, b1, b2⟩ := Rv.strE r2
      obtain ⟨w1, w2, rfl, ⟨t, rfl⟩, ⟨t', rfl⟩⟩ := vals2 rv
      have fin : Q (.str (if x.cps.toList < y.cps.toList then y else x)) H := k.val (by
        split
        · exact .str _ b1 b2
        · exact .str _ a1 a2)
      refine two_strs (bt := fun a b => decide (b.cps.toList < a.cps.toList)) (I.ok.hd hc) (fun a b t u A s Q E h => rc_gt h) call_max_two fun h' tk kp => ?_
      refine ⟨.str (if x.cps.toList < y.cps.toList then y else x), H, I.kept kp, ?_, fin⟩
      by_cases c : x.cps.toList < y.cps.toList
      · rw [if_pos c, if_pos (by simpa using c)]
        exact ⟨_, rfl⟩
      · rw [if_neg c, if_neg (by simpa using c)]
        exact ⟨_, rfl⟩
  · cases e
end
end Mp
end

/-! ## MpGet -/
section
set_option linter.all false
set_option maxRecDepth 100000
namespace Mp
open PySem PySem.Spec PyProof.Rows L2
section
variable {X : Cx} {g : Ga} {a b : Expr} {x y : CE}
theorem da_get2 {A : Around} {E : Value → Shared → Prop} {pins : List (Addr × Obj)} {σ : L2.St} {F : Addr → Prop} {H : Hp} {s : Shared} {Q : Value → Shared → Prop} {a : Addr} {ds : List (D × D)} {y z : V} {k d : D} {u r : Value} (hu : A.units + 1 < cLine) (I : Inv X pins σ H s) (gg : DA X.K F H a ds y k) (ry : RelV y u) (rz : RelV z r) (rd : Rv X.K F H z d)
    (h : ∀ v w' s', Inv X pins σ H s' → Rv X.K F H v ((getK ds k).getD d) → RelV v w' → Q w' s') : wpAny (model X.prog X.w) A (call (.builtin "dict.get") [.ref a, u, r]) Q E s := by
  rcases da_get gg with ⟨kvs, j, q, rfl, rfl, rs⟩ | ⟨kvs, j, b, q, rfl, hb, rfl, rs⟩
  · rcases getK_K j rs with ⟨d', v, e1, e2, rv⟩ | ⟨e1, e2⟩
    · rw [e1] at h
      exact d_get2 hu I (.inl ⟨kvs, j, .inl q, rfl, e2.symm⟩) ry rz fun w' s' I' rw' => h v w' s' I' rv rw'
    · rw [e1] at h
      exact d_get2 hu I (.inl ⟨kvs, j, .inl q, rfl, e2.symm⟩) ry rz fun w' s' I' rw' => h z w' s' I' rd rw'
  · cases (show u = Value.ref b from ry)
    obtain ⟨hd, xs, rel, dd⟩ := dt_any I q
    have ry2 := rel.val j
    refine call_meetsIn PySem.F.slot_dict_get (da_typeIs I gg) PySem.F.entry_dict_get (PySem.F.args_dict_get_3 _ _ _) (meetsH_dict_get_default (tupleKind (mixKind X.prog X.w)) a b hd r) ⟨tupleKind_room_in1 hu, j, xs, key_ofS I hb, dd, ?_⟩
    rcases getK_T j rs with ⟨d', v, e1, e2, rv⟩ | ⟨e1, e2⟩
    · rw [e1] at h
      refine h v _ _ (I.tok _) rv ?_
      rw [e2] at ry2
      exact ry2.getD rz
    · rw [e1] at h
      refine h z _ _ (I.tok _) rd ?_
      rw [e2] at ry2
      exact ry2.getD rz
theorem mt_get (hu : X.A.units + 70 < cLine) : MtR X "dict.get" (RRm X.K (mtO .get)) := by
  intro pins s σ H x xs v us Q I rx rxs ⟨F, o, os, q, d, ro, ros, e, k⟩
  unfold mtO at e
  split at e
  · rename_i _ kk dd
    simp only [Option.bind_eq_some_iff] at e
    obtain ⟨kvs, hk, e⟩ := e
    split at e
    · rename_i ok
      cases e
      obtain ⟨yv, zv, rfl, r1, r2⟩ := ros.two
      obtain ⟨u, w', rfl, ru, rw'⟩ := vals2 rxs
      obtain ⟨a, rfl, gg⟩ := da_of ro hk ok r1
      cases rx
      exact da_get2 (by omega) I gg ru rw' r2 fun v w2 s' I' rv r => ⟨v, H, I', r, k.val rv⟩
    · cases e
  · cases e
theorem few2 {cpos : Pos} {env : Env} {e f : Expr} (n : notStar e = true) (m : notStar f = true) : ((backTo cpos (starEach [e, f] env)).all (fun x => !x.1) && (backToKw cpos (keywordEach [] env)).all (fun x => x.1.isSome)
      && decide (([e, f] : List Expr).length + ([] : List Keyword).length + (if ([] : List Keyword).isEmpty then 0 else 1) < 30)) = true := by
  rw [star_cons n, star_cons m]
  rfl
theorem pe_get' {i : Nat} {nm : Str} {np apos cpos : Pos} (hu : X.A.units + 70 < cLine) (ho : PE X (.Name nm np) (tVar i)) (he : PE X a (TDA X.K fun r => arB x (ev g x r) r)) (hf : PE X b (TDA X.K fun r => arB y (ev g y r) r)) (n1 : notStar a = true) (n2 : notStar b = true) (hline : (apos.endLine == cpos.line) = true) :
    PE X (.Call (.Attribute (.Name nm np) "get" apos) [a, b] [] cpos) (TD X.K (ev g (.mth .get (.nm i) [x, y]))) :=
  wk (pe_bm PySem.F.plainAttrs_dict PySem.F.slot_dict_get PySem.F.type_dict_get (mt_get hu) ho (pa_a1 (xs := [y]) he (pa_a1 (xs := []) hf pa_a0 n2) n1) rfl (few2 n1 n2) hline (star_cons n1) (star_any (by rw [List.all_cons, n2]; rfl))) fun σ H Q ⟨F, r, q, r', re, h, k⟩ => by
    simp only [ev, arB, Option.bind_eq_bind, Option.bind_eq_some_iff, Prod.exists] at h
    obtain ⟨ar, r1, h1, o, h2, kv, h3, as, r2, h4, o2, h5, os, h6, q', h7, h8⟩ := h
    cases h8
    cases hq : r.at i with
    | none =>
      rw [hq] at h1
      cases h1
    | some p =>
      rw [hq] at h1
      cases h1
      have h2' : r.at i = some o := h2
      obtain ⟨v, e1, ro⟩ := re.val i o h2'
      obtain ⟨a', rfl, hd⟩ := ro.dct h3
      refine ⟨.ref a', e1, .inr (.inr (.inl ⟨rfl, ?_⟩)), F, r, as, _, re, h4, fun vs H1 F1 g1 ras => ?_⟩
      · rcases hd with ⟨kvs, z, _⟩ | ⟨kvs, z, _⟩
        · exact .inl ⟨kvs, z⟩
        · exact .inr ⟨kvs, z⟩
      · obtain ⟨v2, e2, ro2⟩ := g1.re.val i o2 h5
        rw [e1] at e2
        cases e2
        exact ⟨F1, o2, os, _, g1.re.dom, ro2, ras.read g1.re h6, h7, Out.fin re g1 k⟩
end
end Mp
end

/-! ## MpDct -/
section
set_option linter.all false
set_option maxRecDepth 100000
namespace Mp
open PySem PySem.Spec PyProof.Rows L2
theorem mapO_each {α β : Type} {f : α → Option β} : ∀ {es : List α} {xs : List β}, mapO f es = some xs → Paired (fun e x => f e = some x) es xs
  | [], _, h => by
    cases h
    exact .nil
  | e :: es, xs, h => by
    simp only [mapO, Option.bind_eq_bind, Option.bind_eq_some_iff, Option.some.injEq] at h
    obtain ⟨y, h1, ys, h2, rfl⟩ := h
    exact .cons h1 (mapO_each h2)
section
variable {X : Cx} {g : Ga} {pos : Pos}
/-- the keys that are written -/
theorem key_ok {o : Option Expr} {d : D} (h : cKey o = some d) : ∃ e k, o = some e ∧ d = keyData k ∧ PE X e (tC (kV k)) := by
  unfold cKey at h
  split at h
  · rename_i k i p
    split at h
    · cases h
      exact ⟨_, .inl _, rfl, rfl, pe_int⟩
    · rename_i s
      unfold constD at h
      simp only at h
      split at h
      · cases h
        exact ⟨_, .inr s, rfl, rfl, pe_str⟩
      · cases h
    · cases h
  · cases h
/-- the pairs' run -/
theorem pairs_run {K : PySem.W.Frag} : ∀ {ys : List CE} {ks : List Key} {r r' : En} {ds : List D} {ps : List (D × D)} {F : Addr → Prop} {H : Hp} {σ : L2.St} {p : Addr} {Q : List (V × V) → Hp → Prop}, ks.length = ys.length → RE K F H r σ → evs g (ilv (ks.map keyData) ys) r = some (ds, r') → pairUp ds = some ps →
    H p = some (.dK []) → ¬ F p → ¬ Ow r σ p →
    (∀ kvs H' F', GoE K F H r σ F' H' r' → H' p = some (.dK []) → ¬ F' p → ¬ Ow r' σ p → RvK K F' H' kvs ps → Q (kvs.map fun kv => (kV kv.1, kv.2)) H') → tPairs ((ks.zip ys).map fun q => (tC (kV q.1), TD K (ev g q.2))) σ H Q
  | [], [], r, r', ds, ps, F, H, σ, p, Q, _, re, h, hp, hH, nf, no, k => by
    simp only [List.map_nil, ilv, evs, Option.some.injEq, Prod.mk.injEq] at h
    obtain ⟨rfl, rfl⟩ := h
    cases hp
    exact k [] H F (.refl re) hH nf no .nil
  | y :: ys, j :: ks, r, r', ds, ps, F, H, σ, p, Q, hl, re, h, hp, hH, nf, no, k => by
    simp only [List.map_cons, ilv, evs, ev, Option.bind_eq_bind, Option.bind_some, Option.bind_eq_some_iff, Prod.exists, Option.some.injEq, Prod.mk.injEq] at h
    obtain ⟨ds1, r3, ⟨o, r1, h1, ds2, r2, h2, rfl, rfl⟩, rfl, rfl⟩ := h
    have hk : keyD (keyData j) = true := by cases j <;> rfl
    replace hp : pairUp (keyData j :: o.d :: ds2) = some ps := hp
    rw [pairUp, if_pos hk] at hp
    · simp only [Option.map_eq_some_iff] at hp
      obtain ⟨ps', hp', rfl⟩ := hp
      refine ⟨F, r, o, r1, re, h1, fun v H1 F1 g1 rr => ?_⟩
      obtain ⟨F2, g2, rv⟩ := g1.frz re rr
      have st := g2.stay hH nf no
      refine pairs_run (by simpa using hl) g2.re h2 hp' st.1 st.2.1 st.2.2 fun kvs H' F' g3 e1 e2 e3 rk => ?_
      have := k ((j, v) :: kvs) H' F' (g2.trans g3) e1 e2 e3 (.cons (rv.mono g2.re.mok g3.ex) rk)
      exact this
  | [], _ :: _, _, _, _, _, _, _, _, _, _, hl, _, _, _, _, _, _, _ => by cases hl
  | _ :: _, [], _, _, _, _, _, _, _, _, _, hl, _, _, _, _, _, _, _ => by cases hl
theorem mrg_rv {K : PySem.W.Frag} {F : Addr → Prop} {H : Hp} : ∀ {kvs : List (Key × V)} {ps : List (D × D)} {acc : List (Key × V)} {m : List (D × D)}, RvK K F H kvs ps → RvK K F H acc m → RvK K F H (mergeK acc kvs) (mrg m ps)
  | [], [], acc, m, _, ha => ha
  | _, (_, d) :: ps, acc, m, h, ha => by
    cases h with
    | @cons j v vs _ _ h1 h2 =>
      show RvK K F H (mergeK (L2.putK acc j v) vs) (mrg (Mp.putK m (keyData j) d) ps)
      exact mrg_rv h2 (putK_K ha h1)
  | _ :: _, [], _, _, h, _ => by cases h
/-- the keys, by place -/
theorem keys_ok : ∀ {ks : List (Option Expr)} {xs : List D} {vs : List Expr} {ys : List CE}, Paired (fun e x => cKey e = some x) ks xs → ks.length = vs.length → Paired (fun e y => PE X e (TD X.K (ev g y))) vs ys →
    ∃ js : List Key, xs = js.map keyData ∧ js.length = ys.length ∧ ks.all (·.isSome) = true ∧ PPs X pos ks vs ((js.zip ys).map fun q => (tC (kV q.1), TD X.K (ev g q.2)))
  | _, _, _, _, .nil, hl, .nil => ⟨[], rfl, rfl, rfl, pps_nil⟩
  | _, _, _, _, .nil, hl, .cons _ _ => by cases hl
  | _, _, _, _, .cons _ _, hl, .nil => by cases hl
  | _, _, _, _, .cons h1 h2, hl, .cons h3 h4 => by
    obtain ⟨js, rfl, l, ha, hp⟩ := keys_ok h2 (by simpa using hl) h4
    obtain ⟨e, j, rfl, rfl, pe⟩ := key_ok h1
    exact ⟨j :: js, rfl, congrArg Nat.succ l, by simpa using ha, pps_cons pe h3 hp⟩
theorem pe_dct' {ks : List (Option Expr)} {vs : List Expr} {xs : List D} {ys : List CE} (hl : ks.length = vs.length) (h15 : ks.length ≤ 15) (hk : mapO cKey ks = some xs) (hv : Paired (fun e y => PE X e (TD X.K (ev g y))) vs ys) :
    PE X (.Dict ks vs pos) (TD X.K (ev g (.dct (ilv xs ys)))) := by
  obtain ⟨js, rfl, l, ha, hp⟩ := keys_ok (pos := pos) (mapO_each hk) hl hv
  by_cases h0 : ks = []
  · subst h0
    have : vs = [] := List.eq_nil_of_length_eq_zero hl.symm
    subst this
    cases hv
    have : js = [] := List.eq_nil_of_length_eq_zero l
    subst this
    refine wk pe_dnewK fun σ H Q ⟨F, r, o, r', re, h, k⟩ p hp0 => ?_
    simp only [ev, List.map_nil, ilv, evs, Option.bind_eq_bind, Option.bind_some, pairUp, mrg, Option.some.injEq, Prod.mk.injEq] at h
    obtain ⟨rfl, rfl⟩ := h
    have g1 : GoE X.K F H r σ F (upd H p (.dK [])) r := Go.pure re (Sub.new hp0)
    exact k _ _ F g1 (.of re g1 ⟨p, rfl, fun f => re.dom p f hp0, .inl ⟨[], upd_same, Nat.zero_le _, .nil⟩⟩ fun _ a z => by
      cases z
      exact hp0)
  · refine wk (pe_disp hp ha hl h0 h15) fun σ H Q ⟨F, r, o, r', re, h, k⟩ p hp0 => ?_
    simp only [ev, Option.bind_eq_bind, Option.bind_eq_some_iff, Prod.exists, Option.some.injEq, Prod.mk.injEq] at h
    obtain ⟨ds, r1, h1, ps, h2, rfl, rfl⟩ := h
    have g1 : GoE X.K F H r σ F (upd H p (.dK [])) r := Go.pure re (Sub.new hp0)
    have no : ¬ Ow r σ p := fun w => re.ow_some w hp0
    refine pairs_run l g1.re h1 h2 upd_same (fun f => re.dom p f hp0) no fun kvs H' F' g2 e1 e2 e3 rk => ⟨e1, kvs, rfl, ?_, ?_⟩
    · have a1 := RvK.length rk
      have a2 := pairUp_len h2
      have a3 := evs_len h1
      have a4 := ilv_len (xs := js.map keyData) (ys := ys) (by simpa using l)
      have a5 := Paired.length hv
      omega
    · have g3 : GoE X.K F H r σ F' (upd H' p (.dK (mergeK [] kvs))) r1 := (g1.trans g2).updN hp0 e1 trivial trivial e2 e3
      refine k _ _ F' g3 (.of re g3 ⟨p, rfl, e2, .inl ⟨_, upd_same, ?_, ?_⟩⟩ fun _ a z => by
        cases z
        exact hp0)
      · have b1 := length_mergeK kvs []
        have a1 := RvK.length rk
        have a2 := pairUp_len h2
        have a3 := evs_len h1
        have a4 := ilv_len (xs := js.map keyData) (ys := ys) (by simpa using l)
        have a5 := Paired.length hv
        have : SZ = 16777216 := rfl
        simp only [List.length_nil] at b1
        omega
      · have mk : Mok (fun b => b = p) F' H' := fun b z => by
          subst z
          exact ⟨e2, _, e1, trivial⟩
        exact mrg_rv (RvK.mono mk Ex.at1 rk) .nil
where
  pairUp_len : ∀ {ds : List D} {ps : List (D × D)}, pairUp ds = some ps → ds.length = 2 * ps.length
    | [], _, h => by
      cases h
      rfl
    | [_], _, h => by cases h
    | k :: v :: r, ps, h => by
      rw [pairUp] at h
      split at h
      · simp only [Option.map_eq_some_iff] at h
        obtain ⟨t, h1, rfl⟩ := h
        have := pairUp_len h1
        simp only [List.length_cons]
        omega
      · cases h
  ilv_len : ∀ {xs : List D} {ys : List CE}, xs.length = ys.length → (ilv xs ys).length = 2 * ys.length
    | [], [], _ => rfl
    | [], _ :: _, h => by cases h
    | _ :: _, [], h => by cases h
    | x :: xs, y :: ys, h => by
      have := ilv_len (xs := xs) (ys := ys) (by simpa using h)
      simp only [ilv, List.length_cons]
      omega
end
end Mp
end

/-! ## MpSort -/
section
set_option linter.all false
set_option maxRecDepth 100000
namespace Mp
open PySem PySem.Spec PyProof.Rows L2
section
variable {X : Cx}
theorem each_vals {K : PySem.W.Frag} {F : Addr → Prop} {H : Hp} : ∀ {us : List Value} {ds : List D}, PySem.W.EachIs (fun u d => ∃ x, RelV x u ∧ Rv K F H x d) us ds → ∃ xs, Vals xs us ∧ RvA K F H xs ds
  | _, _, .nil => ⟨[], .nil, .nil⟩
  | _, _, .cons h t => by
    obtain ⟨x, r1, r2⟩ := h
    obtain ⟨xs, r3, r4⟩ := each_vals t
    exact ⟨x :: xs, .cons r1 r3, .cons r2 r4⟩
theorem vals_each {K : PySem.W.Frag} {F : Addr → Prop} {H : Hp} : ∀ {xs : List V} {us : List Value} {ds : List D}, Vals xs us → RvA K F H xs ds → PySem.W.EachIs (fun u d => ∃ x, RelV x u ∧ Rv K F H x d) us ds
  | _, _, _, .nil, .nil => .nil
  | _, _, _, .cons r1 r2, .cons h1 h2 => .cons ⟨_, r1, h1⟩ (vals_each r2 h2)
theorem vals_reads {pins : List (Addr × Obj)} {σ : L2.St} {F : Addr → Prop} {H : Hp} {s : Shared} (I : Inv X pins σ H s) : ∀ {xs : List V} {us : List Value} {ds : List D}, noDictAll ds = true → Vals xs us → RvA X.K F H xs ds → PySem.W.EachIs (fun u d => ∃ as, Reads s.heap u (id d) as) us ds
  | _, _, _, _, .nil, .nil => .nil
  | _, _, _, n, .cons r1 r2, .cons h1 h2 => by
    obtain ⟨n1, n2⟩ := Bool.and_eq_true_iff.mp (show (noDict _ && noDictAll _) = true from n)
    exact .cons (Dp.reads I _ _ _ (Rv.dp n1 h1) r1) (vals_reads I n2 r2 h2)
theorem sortD_ok {ds es : List D} (h : sortD ds = some es) : es = ds.mergeSort (PySem.W.dataLe false id) ∧ PySem.W.AllAlike (ds.map id) ∧ PySem.W.Sortable (ds.map id) ∧ noDictAll ds = true ∧ ∀ d ∈ ds, d.depth ≤ 64 := by
  unfold sortD at h
  split at h
  · rename_i hc
    cases h
    simp only [Bool.and_eq_true, Bool.or_eq_true] at hc
    obtain ⟨⟨h1, h2⟩, h3, h4⟩ := hc
    rw [List.map_id]
    refine ⟨rfl, fun d hd d' hd' => ?_, ?_, h4, fun d hd => of_decide_eq_true (List.all_eq_true.mp h3 d hd)⟩
    · unfold allAlike at h1
      exact List.all_eq_true.mp (List.all_eq_true.mp h1 d hd) d' hd'
    · rcases h2 with h2 | h2
      · refine .inl fun d hd => ?_
        have := List.all_eq_true.mp h2 d hd
        unfold headed at this
        split at this
        · exact ⟨_, _, rfl⟩
        · cases this
      · refine .inr fun d hd => ?_
        have := List.all_eq_true.mp h2 d hd
        unfold flat1 at this
        split at this
        · exact ⟨fun z => (nomatch z), fun _ z => (nomatch z)⟩
        · exact ⟨fun z => (nomatch z), fun _ z => (nomatch z)⟩
        · cases this
  · cases h
/-- sorted of a list that reads as data -/
theorem sorted_run (hu : X.A.units + 70 < cLine) {pins : List (Addr × Obj)} {σ : L2.St} {F : Addr → Prop} {H : Hp} {s : Shared} {a : Addr} {us : List Value} {xs : List V} {ds es : List D} {Q : VK} (I : Inv X pins σ H s) (dm : Dom F H) (hl : s.heap.IsList a us.toArray) (rv : Vals xs us) (rs : RvA X.K F H xs ds) (hz : xs.length ≤ SZ) (e : sortD ds = some es)
    (k : Out X.K F H (.lst es) Q) : wpAny (model X.prog X.w) X.A (call (.builtin "sorted") [.ref a]) (EP X pins σ Q) X.xe s := by
  obtain ⟨rfl, h1, h2, h3, h4⟩ := sortD_ok e
  have l1 := RvA.length rs
  refine PySem.W.sorted_data (enc := id) (bs := ds) hl (vals_each rv rs) (vals_reads I h3 rv rs) h1 h2 (by rw [← l1, ← SZ_eq]; exact hz) (fun b hb => ?_) fun out ho he => ?_
  · have := h4 b hb
    show X.A.units + 2 + b.depth < cLine
    omega
  · obtain ⟨zs, r1, r2⟩ := each_vals he
    obtain ⟨ep, he'⟩ := PyProof.Rows.sortedAll_at s.heap us out.toArray
    have lz : zs.length ≤ SZ := by
      have := r1.length
      omega
    refine ⟨.ref _, upd H (s.heap.objs.size + 1) (.lst zs), I.laid (t' := s.toks) (fun _ _ => PyProof.Rows.sortedAll_old) (Nat.le_succ _) ⟨by rw [← SZ_eq]; exact lz, out, ep, r1, he'⟩, rfl, ?_⟩
    exact k.lnew dm r2 lz (I.hok.fresh (Nat.le_succ _))
end
end Mp
end

/-! ## MpSort2 -/
section
set_option linter.all false
set_option maxRecDepth 100000
namespace Mp
open PySem PySem.Spec PyProof.Rows L2
mutual
theorem reads_lt {h : Heap} {b : Addr} : ∀ (d : D) (v : Value) (as : List Addr), noDict d = true → Reads h v d as → b ∈ as → b < h.objs.size
  | .none, _, _, _, r, m => by cases r; cases m
  | .bool _, _, _, _, r, m => by cases r; cases m
  | .int _, _, _, _, r, m => by cases r; cases m
  | .str _, _, _, _, r, m => by cases r; cases m
  | .list ds, _, _, n, r, m => by
    cases r with
    | list h1 h2 h3 h4 =>
      rcases List.mem_cons.mp m with rfl | m
      · exact Heap.lt_size h1
      · exact readsAll_lt ds _ _ n h4 m
  | .tuple ds, _, _, n, r, m => by
    cases r with
    | tuple h1 h2 h3 h4 => exact readsAll_lt ds _ _ n h4 m
  | .dict ds, _, _, n, r, m => by cases n
theorem readsAll_lt {h : Heap} {b : Addr} : ∀ (ds : List D) (vs : List Value) (as : List Addr), noDictAll ds = true → ReadsAll h vs ds as → b ∈ as → b < h.objs.size
  | [], _, _, _, r, m => by cases r; cases m
  | d :: ds, _, _, n, r, m => by
    obtain ⟨n1, n2⟩ := Bool.and_eq_true_iff.mp (show (noDict d && noDictAll ds) = true from n)
    cases r with
    | cons h1 h2 =>
      rcases List.mem_append.mp m with m | m
      · exact reads_lt d _ _ n1 h1 m
      · exact readsAll_lt ds _ _ n2 h2 m
end
end Mp
end

/-! ## MpSort3 -/
section
set_option linter.all false
set_option maxRecDepth 100000
namespace Mp
open PySem PySem.Spec PyProof.Rows L2
section
variable {X : Cx}
/-- a dict's keys collected, sorted: by what the keys' values are -/
theorem sorted_keys (hc : X.calm = true) (hu : X.A.units + 70 < cLine) {pins : List (Addr × Obj)} {σ : L2.St} {F : Addr → Prop} {H : Hp} {s : Shared} {d : Addr} {o : Obj} {es : Array DictEntry} {ep : Nat} {xs : List V} {ds zs : List D} {Q : VK} (I : Inv X pins σ H s) (dm : Dom F H)
    (hs : (d == sysModules) = false) (ho : s.heap.get? d = some o) (hx : o.ExactDict) (hdt : o.data = .dict es ep) (rv : Vals xs (es.toList.map (·.key))) (rs : RvA X.K F H xs ds) (hz : xs.length ≤ SZ) (e : sortD ds = some zs) (k : Out X.K F H (.lst zs) Q) :
    wpAny (model X.prog X.w) X.A (call (.builtin "sorted") [.ref d]) (EP X pins σ Q) X.xe s := by
  obtain ⟨rfl, h1, h2, h3, h4⟩ := sortD_ok e
  have l1 := RvA.length rs
  have l2 := rv.length
  rw [List.length_map] at l2
  have hn : es.size ≤ sizeLine := by rw [← SZ_eq, ← Array.length_toList]; omega
  refine Calls.call_function_entry PyProof.Rows.kind_sorted PyProof.Rows.plain_sorted PyProof.Rows.entry_sorted (PyProof.Rows.args_sorted1 _) ?_
  unfold Builtin.«sorted»
  refine wpAny_bind (m := checkCount "sorted" 1 1 _) (wpAny_pure ?_)
  refine wpAny_bind (PySem.W.kdu_collect (A := X.A.in1) (kdl_raw hs hx hdt) (I.ok.hd hc) ho hn fun h' tk acc hk hacc => ?_)
  have ea : acc.toList = es.toList.map (·.key) := by
    have hl : acc.toList.length = es.toList.length := by rw [Array.length_toList, Array.length_toList, hacc.1]
    apply List.ext_getElem?
    intro j
    rw [List.getElem?_map]
    cases hj : acc.toList[j]? with
    | none =>
      have := List.getElem?_eq_none_iff.mp hj
      rw [List.getElem?_eq_none (by omega)]
      rfl
    | some v =>
      obtain ⟨en, hen, hv⟩ := hacc.2 j v (by rw [← Array.getElem?_toList]; exact hj)
      rw [Array.getElem?_toList, hen, hv]
      rfl
  rw [ea]
  have I1 : Inv X pins σ H { s with heap := h', toks := tk } := I.kept hk
  refine wpAny_bind (wpAny_newList ?_ (by rw [List.length_map, Array.length_toList]; exact hn))
  have hoL : (h'.push (seqObj "list" (es.toList.map (·.key)).toArray 0)).get? h'.objs.size = some (seqObj "list" (es.toList.map (·.key)).toArray 0) := Heap.get?_push_size _ rfl
  show wpAny _ _ _ _ _ { s with heap := h'.push (seqObj "list" (es.toList.map (·.key)).toArray 0), toks := tk }
  have er : PySem.W.EachIs (fun v b => ∃ as, Reads (h'.push (seqObj "list" (es.toList.map (·.key)).toArray 0)) v (id b) as ∧ h'.objs.size ∉ as) (es.toList.map (·.key)) ds := reads_off I1 h3 rv rs
  refine wpAny_bind (wpAny_holding (PySem.W.list_sort_data (s := { s with heap := h'.push (seqObj "list" (es.toList.map (·.key)).toArray 0), toks := tk }) (enc := id) (bs := ds) hoL (vals_each rv rs) er h1 h2 (by rw [← l1, ← SZ_eq]; exact hz) (fun b hb => ?_) fun out hol hout => ?_))
  · have := h4 b hb
    show X.A.units + 1 + 1 + b.depth < cLine
    omega
  · obtain ⟨ws, r1, r2⟩ := each_vals hout
    obtain ⟨e', he'⟩ := PyProof.Rows.sortedHeap_at (vs := es.toList.map (·.key)) (out := out.toArray) hoL
    have lz : ws.length ≤ SZ := by
      have := r1.length
      omega
    refine wpAny_pure ⟨_, rfl, .ref h'.objs.size, upd H h'.objs.size (.lst ws), I1.laid (t' := tk) (fun b u e => ?_) (Nat.le_refl _)
      (show ObjOk X.prog X.w _ _ _ (.lst ws) from ⟨by rw [← SZ_eq]; exact lz, out, e', r1, he'⟩), rfl, k.lnew dm r2 lz (I1.hok.fresh (Nat.le_refl _))⟩
    have hb : b < h'.objs.size := Heap.lt_size e
    rw [PyProof.Rows.sortedHeap_old (Nat.ne_of_lt hb) (by rw [size_push']; exact Nat.lt_succ_of_lt hb)]
    exact Heap.get?_push_of_some _ e
where
  reads_off {pins : List (Addr × Obj)} {σ : L2.St} {F : Addr → Prop} {H : Hp} {s : Shared} {h' : Heap} {tk : Nat} {ob : Obj} (I : Inv X pins σ H { s with heap := h', toks := tk }) : ∀ {xs : List V} {us : List Value} {ds : List D}, noDictAll ds = true → Vals xs us → RvA X.K F H xs ds →
      PySem.W.EachIs (fun v b => ∃ as, Reads (h'.push ob) v (id b) as ∧ h'.objs.size ∉ as) us ds
    | _, _, _, _, .nil, .nil => .nil
    | _, _, _, n, .cons r1 r2, .cons h1 h2 => by
      obtain ⟨n1, n2⟩ := Bool.and_eq_true_iff.mp (show (noDict _ && noDictAll _) = true from n)
      obtain ⟨as, q⟩ := Dp.reads I _ _ _ (Rv.dp n1 h1) r1
      exact .cons ⟨as, PyProof.Rows.Reads.keeps (fun _ _ e => Heap.get?_push_of_some _ e) q, fun m => Nat.lt_irrefl _ (reads_lt _ _ _ n1 q m)⟩ (reads_off I n2 r2 h2)
end
end Mp
end

/-! ## MpSort4 -/
section
set_option linter.all false
set_option maxRecDepth 100000
namespace Mp
open PySem PySem.Spec PyProof.Rows L2
section
variable {X : Cx}
theorem keyS_str {k : Key} (h : keyS (keyData k) = true) : ∀ s, k = .inr s → PyData.strOk s = true ∧ s.length ≤ SZ := fun s e => by
  subst e
  have h' : (PyData.strOk s && decide (s.length ≤ SZ)) = true := h
  rw [Bool.and_eq_true] at h'
  exact ⟨h'.1, of_decide_eq_true h'.2⟩
theorem key_rv {K : PySem.W.Frag} {F : Addr → Prop} {H : Hp} {k : Key} (h : keyS (keyData k) = true) : Rv K F H (kV k) (keyData k) := by
  cases k with
  | inl i => exact .int i
  | inr s =>
    obtain ⟨h1, h2⟩ := keyS_str h s rfl
    exact .str s h1 h2
theorem keys_rv {K : PySem.W.Frag} {F : Addr → Prop} {H : Hp} : ∀ k : List Key, (∀ x ∈ k, keyS (keyData x) = true) → RvA K F H (k.map kV) (k.map keyData)
  | [], _ => .nil
  | x :: k, h => .cons (key_rv (h x List.mem_cons_self)) (keys_rv k fun y hy => h y (List.mem_cons_of_mem _ hy))
theorem keyS_tup {k : List Key} (h : keyS (.tuple (k.map keyData)) = true) : (∀ x ∈ k, keyS (keyData x) = true) ∧ k.length ≤ SZ := by
  have h' : (((k.map keyData).all fun k => match k with
    | .str s => PyData.strOk s && decide (s.length ≤ SZ)
    | _ => true) && decide ((k.map keyData).length ≤ SZ)) = true := h
  rw [Bool.and_eq_true] at h'
  refine ⟨fun x hx => ?_, by simpa using of_decide_eq_true h'.2⟩
  have := List.all_eq_true.mp h'.1 (keyData x) (List.mem_map_of_mem hx)
  cases x with
  | inl i => rfl
  | inr s => exact this
theorem keysT {F : Addr → Prop} {H : Hp} : ∀ {kvs : List (List Key × V)} {ds : List (D × D)} {xs : List (List Key × Addr × Value)}, RvT X.K F H kvs ds → KT H kvs xs → (ds.all fun p => keyS p.1) = true →
    RvA X.K F H (xs.map fun x => V.ref x.2.1) (ds.map (·.1)) ∧ Vals (xs.map fun x => V.ref x.2.1) (xs.map fun x => Value.ref x.2.1)
  | [], [], _, .nil, h, _ => by
    cases h
    exact ⟨.nil, .nil⟩
  | (k, v) :: kvs, (_, d) :: ds, _, .cons r1 r2, h, hz => by
    cases h with
    | cons h1 h2 =>
      obtain ⟨z1, z2⟩ := Bool.and_eq_true_iff.mp (show (keyS _ && List.all ds _) = true from hz)
      obtain ⟨a1, a2⟩ := keysT r2 h2 z2
      obtain ⟨_, hH, _⟩ := h1
      obtain ⟨q1, q2⟩ := keyS_tup z1
      exact ⟨.cons (.tup (.of hH) (by rw [List.length_map]; exact q2) (keys_rv k q1)) a1, .cons rfl a2⟩
theorem keysK {P : Program} {w : World} {K : PySem.W.Frag} {F : Addr → Prop} {H : Hp} : ∀ {kvs : List (Key × V)} {ds : List (D × D)} {vs : List (Key × Value)} {es : List DictEntry}, RvK K F H kvs ds → KV kvs vs → Pairs (mixKind P w) es vs → (ds.all fun p => keyS p.1) = true →
    RvA K F H (kvs.map fun x => kV x.1) (ds.map (·.1)) ∧ Vals (kvs.map fun x => kV x.1) (es.map (·.key))
  | [], [], _, _, .nil, h, p, _ => by
    cases h
    cases p
    exact ⟨.nil, .nil⟩
  | (k, v) :: kvs, (_, d) :: ds, _, _, .cons r1 r2, h, p, hz => by
    cases h with
    | cons h1 h2 =>
      cases p with
      | cons p1 p2 p3 =>
        obtain ⟨z1, z2⟩ := Bool.and_eq_true_iff.mp (show (keyS _ && List.all ds _) = true from hz)
        obtain ⟨a1, a2⟩ := keysK r2 h2 p3 z2
        refine ⟨.cons (key_rv z1) a1, .cons ?_ a2⟩
        obtain ⟨e, _⟩ := h1
        simp only at e
        subst e
        rcases keyIs_shape (show keyIs _ _ = true from p1) with ⟨i, t, ek, ev⟩ | ⟨z, t, ek, ev⟩
        · show RelV (kV _) (DictEntry.key _)
          rw [ek, ev]
          exact ⟨t, rfl⟩
        · show RelV (kV _) (DictEntry.key _)
          rw [ek, ev]
          exact ⟨t, rfl⟩
theorem cb_sorted (hc : X.calm = true) (hu : X.A.units + 70 < cLine) : CallR X (.builtin "sorted") (RRn X.K (blO .sorted)) := by
  intro pins s σ H xs us Q I rv ⟨F, os, q, dm, ro, e, k⟩
  replace e : one sortO os = some q := e
  unfold one at e
  split at e
  · rename_i o
    obtain ⟨v, rfl, r1⟩ := ro.one
    obtain ⟨u, rfl, rx⟩ := vals1 rv
    unfold sortO at e
    split at e
    · rename_i kvs hk
      split at e
      · rename_i hz
        simp only [Option.map_eq_some_iff] at e
        obtain ⟨zs, hs, rfl⟩ := e
        obtain ⟨a, rfl, ⟨ks, h1, h2, h3⟩ | ⟨ks, h1, h2, h3⟩⟩ := r1.dct hk
        · cases rx
          obtain ⟨z, lo, vs, rel, ob, es, ep, ho, hx, hdt, _, pr, _⟩ := dk_rd I.hok (.inl h1)
          obtain ⟨a1, a2⟩ := keysK (K := X.K) h3 rel pr hz
          exact sorted_keys hc hu I dm lo ho hx hdt a2 a1 (by rw [List.length_map]; exact h2) hs k
        · cases rx
          obtain ⟨z, lo, ys, pr, ob, es, ep, ho, hx, hdt, he, _⟩ := (show ObjOk X.prog X.w H s.heap a (.dT ks) from (Rd.ok (.inl h1) I.hok))
          obtain ⟨a1, a2⟩ := keysT (X := X) h3 pr hz
          refine sorted_keys hc hu I dm lo ho hx hdt (xs := ys.map fun x => V.ref x.2.1) ?_ a1 (by rw [List.length_map, ← Paired.length pr]; exact h2.2) hs k
          rw [he, List.map_map]
          exact a2
      · cases e
    · split at e
      · rename_i ds hl
        simp only [Option.map_eq_some_iff] at e
        obtain ⟨zs, hs, rfl⟩ := e
        obtain ⟨a, vs, rfl, h1, h2, h3⟩ := r1.lst hl
        cases rx
        obtain ⟨its, r, pl, hz⟩ := I.list h1
        exact sorted_run hu I dm pl.isList r h3 h2 hs k
      · cases e
  · cases e
end
end Mp
end

/-! ## MpSet -/
section
set_option linter.all false
set_option maxRecDepth 100000
set_option maxHeartbeats 4000000
/-! Mp: sorted(set(list of ints)). -/
namespace Mp
open PySem PySem.Spec PyProof.Rows L2
section
variable {P : Program} {w : World} {A : Around} {E : Value → Shared → Prop} {s : Shared}
/-- a set as it is made -/
abbrev set0 (w : World) : Obj := { cls := .type "set", dict := none, data := .set #[] 0 (.fresh 0 0 (!w.params.followText "set-order")) }
/-- the heap with it -/
abbrev hset (w : World) (h : Heap) : Heap := h.push (set0 w)
abbrev lit0 (l : Addr) : Obj := { cls := .type "list_iterator", data := .fields #[.ref l, .int 0 0] }
theorem set_of_list {l : Addr} {its : Array Value} (ns : List Int) {Q : Value → Shared → Prop} (hh : A.handled = none) (hl : s.heap.IsList l its) (hit : IntsAre its.toList ns) (hb : ns.length + 1 < scanBound)
    (q : ∀ (h' : Heap) (tk c : Nat), SetR w h' s.heap.objs.size (fun j => decide (j ∈ ns)) c → c ≤ ns.length → (∀ b o, s.heap.get? b = some o → h'.get? b = some o) →
      Q (.ref s.heap.objs.size) { s with heap := h', toks := tk }) : wpAny (model P w) A (call (.type "set") [.ref l]) Q E s := by
  have sz : its.size = ns.length := (Array.length_toList (xs := its)).symm.trans (IntsAre.length hit)
  obtain ⟨_, _, m0⟩ := F.called_set.mro
  have m1 := F.called_set.made
  have m2 := F.called_set.sub
  refine wpAny_call (codeAny_of_tree ?_)
  show wpAny _ _ (callAny (.type "set") _) _ _ _
  refine wpAny_pure ⟨Code.quiet_builtin _ (by decide +kernel), codeAny_builtin F.entry_type_call ?_⟩
  rw [Around.under_plain (weight_type_call_type "set" [.ref l] []) rfl]
  have m3 := F.called_set.notType
  have m4 := F.called_set.canCreate
  have m5 := F.typeCall_set_1 (.ref l)
  repeat (any_goals (first | assumption | wp_step))
  refine codeAny_mono (code_set_led1 (.ref l) (E := E) (Q₁ := fun o t => o = .ref s.heap.objs.size ∧ t = { s with heap := hset w s.heap }) ⟨rfl, rfl⟩) fun r t hr => ?_
  rcases r with e | fl
  · exact hr
  · cases fl with
    | ret o =>
      obtain ⟨rfl, rfl⟩ := hr
      have gS : (hset w s.heap).get? s.heap.objs.size = some (set0 w) := Heap.get?_push_size _ rfl
      have tS : Shared.TypeIs { s with heap := hset w s.heap } (.ref s.heap.objs.size) "set" := ⟨_, gS, rfl⟩
      have b1 := F.called_set.init.lookup
      have b2 := F.called_set.init.bind (.ref s.heap.objs.size)
      repeat (any_goals (first | assumption | wp_step))
      refine codeAny_mono (codeAny_call_builtin (R := wants (fun r t => r = .none ∧ ∃ h' tk c, t = { s with heap := h', toks := tk } ∧ SetR w h' s.heap.objs.size (fun j => decide (j ∈ ns)) c ∧ c ≤ ns.length ∧
        (∀ b o, s.heap.get? b = some o → h'.get? b = some o)) E) F.called_set.init.plain F.entry_set_init (check_set_init_1 tS ?_)) fun r2 t2 hr2 => ?_
      · obtain ⟨⟨oc, od, oda, osl⟩, ho, hc, n, hd⟩ := hl
        simp only at hc hd
        subst hc hd
        have ho' : (hset w s.heap).get? l = some { cls := .type "list", dict := od, data := .seq its n, slots := osl } := Heap.get?_push_of_some _ ho
        have e1 := F.sub_list_set
        have e2 := F.sub_list_frozenset
        have e3 : (Value.type "list" == Value.type "dict") = false := by decide
        have l1 : (hset w s.heap).IsList l its := ⟨_, ho', rfl, n, rfl⟩
        unfold Builtin.«set.__init__» noKeywords Builtin.Frozenset.updateFrom
        generalize hI : pyIter = I
        wp_walk
        subst hI
        refine wpAny_pyIter_list l1 ?_
        refine wpAny_bind (wpAny_runValue ?_)
        have ll : l < s.heap.objs.size := Heap.lt_size ho
        have zz : (hset w s.heap).objs.size = s.heap.objs.size + 1 := Heap.size_push ..
        have nI : l ≠ (hset w s.heap).objs.size := by
          rw [zz]
          exact Nat.ne_of_lt (Nat.lt_succ_of_lt ll)
        have nS : s.heap.objs.size ∉ [(hset w s.heap).objs.size, l] := fun k => by
          rw [zz] at k
          rcases List.mem_cons.mp k with k | k
          · exact absurd k (Nat.ne_of_lt (Nat.lt_succ_self _))
          · exact absurd (List.mem_singleton.mp k) (Nat.ne_of_gt ll)
        have hv : ∀ (i : Nat) (v : Value), its[i]? = some v → ∃ k t, ns[i]? = some k ∧ v = .int k t := fun i v e => by
          have lt : i < ns.length := sz ▸ (Array.getElem?_eq_some_iff.mp e).1
          obtain ⟨t, r⟩ := PyProof.Rows.IntsAre.int_at hit i v (by rw [Array.getElem?_toList]; exact e)
          refine ⟨ns[i], t, List.getElem?_eq_getElem lt, ?_⟩
          rw [r, List.getD_eq_getElem?_getD, List.getElem?_eq_getElem lt] <;> rfl
        refine set_update_ints ((Walks.list (by simp [hh]) _ l nI its).toS) s.heap.objs.size nS ns sz hb hv (its.size - 0) 0 _ (by omega) (Nat.zero_le _)
          ⟨⟨_, Heap.get?_push_size _ rfl, rfl, rfl⟩, l1.push _⟩ ⟨0, Nat.le_refl 0, setR_new_at (ns := ns) (Heap.get?_push_of_some _ gS : ((hset w s.heap).push (lit0 l)).get? s.heap.objs.size = some (set0 w))⟩ fun t c mv hc hS => ?_
        obtain ⟨h', g2, d2, tk, os2⟩ := t
        have g1 : g2 = s.gens := mv.gens
        have d1 : d2 = s.drawn := mv.drawn
        have o1 : os2 = s.os := mv.os
        subst g1 d1 o1
        show wpAny _ _ _ _ _ _
        refine wpAny_pure ?_
        show wpAny _ _ (ret Value.none) _ _ _
        refine wpAny_pure ⟨rfl, h', tk, c, rfl, hS, sz ▸ hc, fun b o e => ?_⟩
        have k0 : b < s.heap.objs.size := Heap.lt_size e
        refine mv.heap b o (fun k => ?_) (Heap.get?_push_of_some _ (Heap.get?_push_of_some _ e))
        rcases List.mem_cons.mp k with k | k
        · exact absurd k (Nat.ne_of_lt k0)
        · have k := List.mem_singleton.mp k
          rw [zz] at k
          exact absurd k (Nat.ne_of_lt (Nat.lt_succ_of_lt k0))
      · rcases r2 with e2 | f2
        · exact hr2
        · cases f2 with
          | ret o2 =>
            obtain ⟨rfl, h', tk, c, rfl, h1, h2, h3⟩ := hr2
            repeat (any_goals (first | assumption | wp_step))
            exact q _ _ _ h1 h2 h3
          | _ => exact hr2.elim
    | _ => exact hr.elim
end
end Mp
end

/-! ## MpSet2 -/
section
set_option linter.all false
set_option maxRecDepth 100000
namespace Mp
open PySem PySem.Spec PyProof.Rows L2
theorem rising_unique : ∀ {xs ys : List Int}, xs.Pairwise (· < ·) → ys.Pairwise (· < ·) → (∀ k, k ∈ xs ↔ k ∈ ys) → xs = ys
  | [], [], _, _, _ => rfl
  | [], y :: ys, _, _, h => absurd ((h y).mpr List.mem_cons_self) (by simp)
  | x :: xs, [], _, _, h => absurd ((h x).mp List.mem_cons_self) (by simp)
  | x :: xs, y :: ys, hx, hy, h => by
    rw [List.pairwise_cons] at hx hy
    have e : x = y := by
      have h1 := (h x).mp List.mem_cons_self
      have h2 := (h y).mpr List.mem_cons_self
      rcases List.mem_cons.mp h1 with h1 | h1
      · exact h1
      · rcases List.mem_cons.mp h2 with h2 | h2
        · exact h2.symm
        · have := hx.1 y h2
          have := hy.1 x h1
          omega
    subst e
    rw [rising_unique hx.2 hy.2 fun k => ?_]
    have q := h k
    constructor
    · intro hk
      have lt := hx.1 k hk
      rcases List.mem_cons.mp (q.mp (List.mem_cons_of_mem _ hk)) with z | z
      · omega
      · exact z
    · intro hk
      have lt := hy.1 k hk
      rcases List.mem_cons.mp (q.mpr (List.mem_cons_of_mem _ hk)) with z | z
      · omega
      · exact z
theorem setI_mem (is : List Int) (k : Int) : k ∈ (is.eraseDups.mergeSort fun a b => decide (a ≤ b)) ↔ k ∈ is := by
  rw [List.mem_mergeSort, List.mem_eraseDups]
theorem nodup_eraseDups : ∀ (n : Nat) (is : List Int), is.length ≤ n → is.eraseDups.Nodup
  | 0, [], _ => by simp
  | 0, _ :: _, h => by simp at h
  | n + 1, [], _ => by simp
  | n + 1, a :: as, h => by
    rw [List.eraseDups_cons, List.nodup_cons]
    refine ⟨fun k => ?_, nodup_eraseDups n _ ?_⟩
    · rw [List.mem_eraseDups, List.mem_filter] at k
      simp at k
    · have := List.length_filter_le (fun b => !b == a) as
      simp only [List.length_cons] at h
      omega
theorem setI_rising (is : List Int) : (is.eraseDups.mergeSort fun a b => decide (a ≤ b)).Pairwise (· < ·) := by
  have h1 : (is.eraseDups.mergeSort fun a b => decide (a ≤ b)).Pairwise fun a b => (decide (a ≤ b)) = true :=
    List.pairwise_mergeSort (fun a b c h1 h2 => by simp at *; omega) (fun a b => by simp; omega) _
  have h2 : (is.eraseDups.mergeSort fun a b => decide (a ≤ b)).Nodup := (List.mergeSort_perm _ _).nodup_iff.mpr (nodup_eraseDups _ is (Nat.le_refl _))
  exact (h1.and h2).imp fun {a b} ⟨h, n⟩ => by
    have := of_decide_eq_true h
    have n' : a ≠ b := n
    omega
section
variable {X : Cx} {g : Ga} {e : Expr} {x : CE} {p p2 pos pos2 : Pos}
theorem pe_setsorted (hc : X.calm = true) (hu : X.A.units + 70 < cLine) (hg : Gl X "sorted") (hm : X.mg "sorted" = none) (hg2 : Gl X "set") (hm2 : X.mg "set" = none) (he : PE X e (TDA X.K fun r => arB x (ev g x r) r)) (n : notStar e = true) :
    PE X (.Call (.Name "sorted" p) [.Call (.Name "set" p2) [e] [] pos2] [] pos) (TD X.K (ev g (.blt .setsorted [x]))) := by
  refine ⟨fun pins s σ H Q I ⟨F, r, o, r', re, h, k⟩ => ?_⟩
  simp only [ev, evas, Option.bind_eq_bind, Option.bind_eq_some_iff, Prod.exists, Option.some.injEq, Prod.mk.injEq] at h
  obtain ⟨as, r1, ⟨a, r2, h1, as2, r3, ⟨rfl, rfl⟩, rfl, rfl⟩, os, h4, q, h5, rfl, rfl⟩ := h
  simp only [rdAs, Option.bind_eq_bind, Option.bind_eq_some_iff, Option.some.injEq] at h4
  obtain ⟨o1, h4, os2, rfl, rfl⟩ := h4
  replace h5 : onInts setI o1 = some q := h5
  refine Call_ (ld_blt (u := .builtin "sorted") I hg hm (by decide +kernel) ?_)
  refine PyProof.Rows.callWith_builtin1 (PyProof.Rows.args_cons ?_ rfl) rfl rfl
  refine Call_ (ld_blt I hg2 hm2 PyProof.Rows.boot_set ?_)
  refine PyProof.Rows.callWith_type1 (PyProof.Rows.args_cons (thn (he.run pins s σ H (fun v H' => ∃ F', GoE X.K F H r σ F' H' r2 ∧ RA X.K F' H' r2 σ H a v) I ⟨F, r, a, r2, re, h1, fun v H1 F1 g1 ra => ⟨F1, g1, ra⟩⟩) fun u s1 ⟨v, H1, I1, rl, F1, g1, ra⟩ => PyProof.Rows.args_nil ?_) (star_cons n)) (star_cons n) rfl
  have ro := RA.read g1.re ra h4
  unfold onInts at h5
  split at h5
  · rename_i xs hl
    split at h5
    · rename_i is hi
      unfold setI at h5
      split at h5
      · rename_i h64
        cases h5
        obtain ⟨a, vs, rfl, hq, hz, rs⟩ := ro.lst hl
        obtain ⟨rfl, rfl⟩ := ints_of rs hi
        cases rl
        obtain ⟨its, rv, pl, _⟩ := I1.list hq
        have hit : IntsAre its.toArray.toList is := by simpa using rv.ints
        refine set_of_list is (I1.ok.hd hc) pl.isList hit (by unfold scanBound; omega) fun h' tk c hS hcl hk => ?_
        refine PyProof.Rows.args_nil ?_
        have I2 : Inv X pins σ H1 { s1 with heap := h', toks := tk } := I1.kept hk
        have key : ∀ s2 : Shared, Inv X pins σ H1 s2 → SetR X.w s2.heap s1.heap.objs.size (fun j => decide (j ∈ is)) c → wpAny (model X.prog X.w) X.A (call (.builtin "sorted") [.ref s1.heap.objs.size]) (EP X pins σ Q) X.xe s2 := fun s2 I2 hS => by
          refine sorted_set hS (I2.ok.hd hc) (by omega) fun s' p out c ns k' g' o' hp hg hi' hs hm hl' => ?_
          have en : ns = is.eraseDups.mergeSort fun a b => decide (a ≤ b) := rising_unique hs (setI_rising is) fun k => by
            rw [setI_mem, hm]
            exact decide_eq_true_iff
          have hlen : (ns.map V.int).length ≤ sizeLine := by rw [List.length_map, hl', sizeLine_eq]; omega
          have hn : H1 p = none := I2.hok.fresh hp
          have J : Inv X pins σ (upd H1 p (.lst (ns.map V.int))) s' :=
            I2.call' (ch := []) o' (Un.laid k' hp hn) (I2.hok.laid k' hp ⟨hlen, out.toList, c, vals_of_ints hi', hg⟩) (by rw [g']; exact I2.bare) (fun _ z => nomatch z)
          have dm : Dom F1 H1 := g1.re.dom
          refine ⟨.ref p, _, J, rfl, k _ _ F1 (g1.trans (.pure g1.re (.new hn))) (RR.of re (g1.trans (.pure g1.re (.new hn))) ⟨p, _, rfl, fun f => dm p f hn, upd_same, by rw [SZ_eq]; exact hlen, ?_⟩ fun _ a z => ?_)⟩
          · rw [← en]
            exact ints_rv ns
          · cases z
            exact g1.ex.dom p hn
        exact key _ I2 hS
      · cases h5
    · cases h5
  · cases h5
end
end Mp
end

/-! ## MpZpz0 -/
section
set_option linter.all false
set_option maxRecDepth 100000
set_option maxHeartbeats 1000000
/-! Mp: iterators that are drawn from by zip: a zip may draw from a zip. -/
namespace Mp
open PySem PySem.Spec PyProof.Rows L2
/-- a source of values: at `it`; fp is written, dp is read; n items, each lays al objects -/
structure Src (P : Program) (w : World) (it : Addr) (fp dp : List Addr) (n al : Nat) (St : Nat → Heap → Prop) (Vl : Nat → Nat → Value → Heap → Prop) : Prop where
  item : ∀ (A : Around) (k : Nat) (s : Shared) (Q E : Value → Shared → Prop), A.handled = none → St k s.heap → k < n →
    (∀ v h', St (k + 1) h' → Vl k s.heap.objs.size v h' → h'.objs.size = s.heap.objs.size + al → (∀ c o, c ∉ fp → s.heap.get? c = some o → h'.get? c = some o) → Q v { s with heap := h' }) →
    wpAny (model P w) A (Builtin.SmallTypes.nextOf (.ref it)) Q E s
  done : ∀ (A : Around) (k : Nat) (s : Shared) (Q E : Value → Shared → Prop), A.handled = none → St k s.heap → n ≤ k →
    (∀ h' e, (∀ c o, c ∉ fp → s.heap.get? c = some o → h'.get? c = some o) → (∃ o, h'.get? e = some o ∧ o.cls = .type "StopIteration") → E (.ref e) { s with heap := h' }) →
    wpAny (model P w) A (Builtin.SmallTypes.nextOf (.ref it)) Q E s
  keep : ∀ k h h', St k h → (∀ c, c ∈ fp ∨ c ∈ dp → ∀ o, h.get? c = some o → h'.get? c = some o) → St k h'
  dom : ∀ k h, St k h → ∀ c, c ∈ fp → ∃ o, h.get? c = some o ∧ ∀ v, o.data ≠ .cell v
  vk : ∀ k b v h h', Vl k b v h → (∀ c o, b ≤ c → h.get? c = some o → h'.get? c = some o) → Vl k b v h'
section
variable {P : Program} {w : World}
theorem Src.tup {i l : Addr} (hil : i ≠ l) (xs : Array Value) : Src P w i [i] [l] xs.size 0 (fun k h => h.IsTupleIter i l k ∧ h.IsTuple l xs) (fun k _ v _ => xs[k]? = some v) where
  item := fun A k s Q E hh ⟨h1, h2⟩ hk q => by
    have hx : xs[k]? = some xs[k] := Array.getElem?_eq_getElem hk
    refine RZ.nextOf_tuple_item h1 h2 hx fun h' a b => q _ h' ⟨a, ?_⟩ hx (by rw [b.1]; rfl) fun c o n e => b.extBut _ _ (fun z => n (by simp [z])) e
    exact h2.extBut b.extBut (Ne.symm hil)
  done := fun A k s Q E hh ⟨h1, h2⟩ hk q => RZ.nextOf_tuple_end hh h1 h2 (Array.getElem?_eq_none hk) fun h' e a b => q h' e (fun c o n x => a _ _ (fun z => n (by simp [z])) x) b
  keep := fun k h h' ⟨h1, h2⟩ x => ⟨h1.at fun o e => x i (.inl (by simp)) o e, by
    obtain ⟨o, ho, r⟩ := h2
    exact ⟨o, x l (.inr (by simp)) o ho, r⟩⟩
  dom := fun k h ⟨⟨o, h1, _, h3⟩, _⟩ c hc => by
    have : c = i := by simpa using hc
    subst this
    exact ⟨o, h1, fun v z => by rw [h3] at z; cases z⟩
  vk := fun _ _ _ _ _ h _ => h
theorem Src.lst {i l : Addr} (hil : i ≠ l) (xs : Array Value) : Src P w i [i] [l] xs.size 0 (fun k h => h.IsListIter i l k ∧ h.IsList l xs) (fun k _ v _ => xs[k]? = some v) where
  item := fun A k s Q E hh ⟨h1, h2⟩ hk q => by
    have hx : xs[k]? = some xs[k] := Array.getElem?_eq_getElem hk
    refine wpAny_nextOf_list_item h1 h2 hx fun h' a b => q _ h' ⟨a, ?_⟩ hx (by rw [b.1]; rfl) fun c o n e => b.extBut _ _ (fun z => n (by simp [z])) e
    exact h2.extBut b.extBut (Ne.symm hil)
  done := fun A k s Q E hh ⟨h1, h2⟩ hk q => wpAny_nextOf_list_end hh h1 h2 (Array.getElem?_eq_none hk) fun h' e a b => q h' e (fun c o n x => a _ _ (fun z => n (by simp [z])) x) b
  keep := fun k h h' ⟨h1, h2⟩ x => ⟨h1.at fun o e => x i (.inl (by simp)) o e, by
    obtain ⟨o, ho, r⟩ := h2
    exact ⟨o, x l (.inr (by simp)) o ho, r⟩⟩
  dom := fun k h ⟨⟨o, h1, _, h3⟩, _⟩ c hc => by
    have : c = i := by simpa using hc
    subst this
    exact ⟨o, h1, fun v z => by rw [h3] at z; cases z⟩
  vk := fun _ _ _ _ _ h _ => h
/-- a zip object -/
abbrev ZO (h : Heap) (z TI TO : Addr) (f0 : Value) (f : Bool) : Prop :=
  h.get? z = some { cls := .type "zip", dict := none, data := .fields #[f0, .bool f, .bool false, .ref TI, .ref TO], slots := #[] }
def F0 (v : Value) : Prop := v = .none ∨ ∃ T : Addr, v = rawInt T
structure Ap (z TI TO : Addr) (fp1 dp1 fp2 dp2 : List Addr) : Prop where
  hz : z ∉ fp1 ∧ z ∉ dp1 ∧ z ∉ fp2 ∧ z ∉ dp2
  ht : TO ∉ fp1 ∧ TO ∉ dp1 ∧ TO ∉ fp2 ∧ TO ∉ dp2
  hi : TI ∉ fp1 ∧ TI ∉ fp2 ∧ TI ≠ z ∧ TI ≠ TO ∧ TO ≠ z
  hx : ∀ c ∈ fp1, c ∉ fp2 ∧ c ∉ dp2
  hy : ∀ c ∈ fp2, c ∉ fp1 ∧ c ∉ dp1
section
variable {A : Around} {E : Value → Shared → Prop} {s : Shared}
/-- is the tuple of a zip free? -/
theorem zip_free {z TI TO : Addr} {f0 : Value} {f : Bool} {Q : Bool → Shared → Prop} (hz : ZO s.heap z TI TO f0 f) (h0 : F0 f0) (h1 : Q true s)
    (h2 : f0 ≠ .none → ∀ h', ZO h' z TI TO f0 true → Heap.SameBut z s.heap h' → Q false { s with heap := h' }) : wpAny (model P w) A (Builtin.SmallTypes.ownedTupleIsFree (.ref z)) Q E s := by
  unfold Builtin.SmallTypes.ownedTupleIsFree
  rcases h0 with rfl | ⟨T, rfl⟩
  · exact wpAny_bind (wpAny_field hz rfl (x := .none) rfl (wpAny_pure h1))
  · refine wpAny_bind (wpAny_field hz rfl (x := rawInt T) rfl ?_)
    show wpAny _ _ (loadIfAlive ((T : Int).toNat) >>= _) _ _ _
    rw [Int.toNat_natCast]
    cases hT : s.heap.get? T with
    | none =>
      have al : ∀ R : Option Obj → Shared → Prop, R none s → wpAny (model P w) A (loadIfAlive T) R E s := fun R hR _ _ _ => by
        show R (s.heap.get? T) s
        rw [hT]
        exact hR
      exact wpAny_bind (al _ (wpAny_pure h1))
    | some oT =>
      refine wpAny_bind (PySem.W.kdx_alive hT ?_)
      simp only [Option.isNone_some, Bool.false_eq_true, if_false]
      refine wpAny_bind (wpAny_field hz rfl (x := .bool f) rfl ?_)
      cases f with
      | true =>
        rw [if_neg (show ¬ ((Value.bool true != Value.bool true) = true) from Bool.false_ne_true)]
        exact wpAny_pure (h2 (fun z => nomatch z) s.heap hz (Heap.SameBut.refl _ _))
      | false =>
        rw [if_pos (show (Value.bool false != Value.bool true) = true from rfl)]
        exact wpAny_bind (wpAny_setField_rec hz (by simp) fun h₁ hz₁ hs₁ => wpAny_pure (h2 (fun z => nomatch z) h₁ hz₁ hs₁))

/-- a zip's next -/
theorem zipc_item {i1 i2 z TI TO : Addr} {fp1 dp1 fp2 dp2 : List Addr} {n1 n2 a1 a2 k : Nat} {St1 St2 : Nat → Heap → Prop} {V1 V2 : Nat → Nat → Value → Heap → Prop} {f0 a b : Value} {f : Bool} {Q : Value → Shared → Prop}
    (S1 : Src P w i1 fp1 dp1 n1 a1 St1 V1) (S2 : Src P w i2 fp2 dp2 n2 a2 St2 V2) (D : Ap z TI TO fp1 dp1 fp2 dp2) (hh : A.handled = none)
    (hz : ZO s.heap z TI TO f0 f) (h0 : F0 f0) (hTI : IsPair s.heap TI (.ref i1) (.ref i2)) (hTO : IsPair s.heap TO a b) (h1 : St1 k s.heap) (h2 : St2 k s.heap) (l1 : k < n1) (l2 : k < n2)
    (hQ : ∀ h' x y g0 g, F0 g0 → (f0 = .none → g0 = rawInt (s.heap.objs.size + a1 + a2 : Nat) ∧ g = false) → ZO h' z TI TO g0 g → (∃ a b, IsPair h' TO a b) → IsPair h' TI (.ref i1) (.ref i2) → St1 (k + 1) h' → St2 (k + 1) h' →
      V1 k s.heap.objs.size x h' → V2 k (s.heap.objs.size + a1) y h' → IsPair h' (s.heap.objs.size + a1 + a2) x y → h'.objs.size = s.heap.objs.size + (a1 + a2 + 1) →
      (∀ c o, c ≠ z → c ≠ TO → c ∉ fp1 → c ∉ fp2 → s.heap.get? c = some o → h'.get? c = some o) → Q (.ref (s.heap.objs.size + a1 + a2)) { s with heap := h' }) :
    wpAny (model P w) A (Builtin.«zip.__next__» ⟨[.ref z], []⟩) (fun fin s' => ∃ v, fin = .done (.ret v) ∧ Q v s') E s := by
  obtain ⟨z1, z2, z3, z4⟩ := D.hz
  obtain ⟨t1, t2, t3, t4⟩ := D.ht
  obtain ⟨j1, j2, j3, j4, j5⟩ := D.hi
  have zl : @LT.lt Nat _ z s.heap.objs.size := Heap.lt_size hz
  have tl : @LT.lt Nat _ TO s.heap.objs.size := Heap.lt_size hTO
  have il : @LT.lt Nat _ TI s.heap.objs.size := Heap.lt_size hTI
  have p1 : ∀ c ∈ fp1, @LT.lt Nat _ c s.heap.objs.size := fun c hc => by
    obtain ⟨o, e, _⟩ := S1.dom k _ h1 c hc
    exact Heap.lt_size e
  have p2 : ∀ c ∈ fp2, @LT.lt Nat _ c s.heap.objs.size := fun c hc => by
    obtain ⟨o, e, _⟩ := S2.dom k _ h2 c hc
    exact Heap.lt_size e
  show wpAny _ _ (field (.ref z) 2 >>= _) _ _ _
  refine wpAny_bind (wpAny_field hz rfl (x := .bool false) rfl ?_)
  show wpAny _ _ (field (.ref z) 3 >>= _) _ _ _
  refine wpAny_bind (wpAny_field hz rfl (x := .ref TI) rfl ?_)
  refine wpAny_bind (wpAny_seqItems hTI rfl ?_)
  show wpAny _ _ (Builtin.SmallTypes.ownedTupleIsFree (.ref z) >>= _) _ _ _
  refine wpAny_bind (zip_free hz h0 ?_ fun hn h₁ hz₁ hs₁ => ?_)
  · simp only [if_true]
    refine wpAny_bind (wpAny_rule ?_)
    refine wpAny_bind (wpAny_field hz rfl (x := .ref TO) rfl ?_)
    refine wpAny_bind (wpAny_setField_rec hz (by simp) fun h₁ hz₁ hs₁ => ?_)
    replace hz₁ : ZO h₁ z TI TO .ellipsis f := hz₁
    refine wpAny_bind ?_
    simp only [List.zipIdx_cons, List.zipIdx_nil, List.forIn_cons, List.forIn_nil]
    refine wpAny_bind (wpAny_bind (wpAny_onRaise ?_))
    show wpAny _ _ (Builtin.SmallTypes.nextOf (.ref i1) >>= _) _ _ _
    have u1 : ∀ c o, c ≠ z → s.heap.get? c = some o → h₁.get? c = some o := fun c o n e => hs₁.extBut _ _ n e
    refine wpAny_bind (S1.item _ k { s with heap := h₁ } _ _ hh (S1.keep _ _ _ h1 fun c hc o e => u1 c o (fun q => by subst q; exact hc.elim z1 z2) e) l1 fun x h₂ g1 v1 m2 hs₂ => wpAny_pure ?_)
    have hTO₂ : IsPair h₂ TO a b := hs₂ _ _ t1 (u1 _ _ j5 hTO)
    have hz₂ : ZO h₂ z TI TO .ellipsis f := hs₂ _ _ z1 hz₁
    refine wpAny_bind (wpAny_seqItems hTO₂ rfl ?_)
    refine wpAny_bind (wpAny_updateSeq_pair hTO₂ fun h₃ hTO₃ hs₃ => ?_)
    replace hTO₃ : IsPair h₃ TO x b := hTO₃
    have u3 : ∀ c o, c ≠ TO → h₂.get? c = some o → h₃.get? c = some o := fun c o n e => hs₃.extBut _ _ n e
    refine wpAny_bind (wpAny_letGo (wpAny_pure ?_))
    refine wpAny_bind (wpAny_bind (wpAny_onRaise ?_))
    show wpAny _ _ (Builtin.SmallTypes.nextOf (.ref i2) >>= _) _ _ _
    have m1 : h₁.objs.size = s.heap.objs.size := hs₁.1
    have m3 : h₃.objs.size = s.heap.objs.size + a1 := by rw [hs₃.1, m2]; show h₁.objs.size + a1 = _; rw [m1]
    have k2 : St2 k h₃ := S2.keep _ _ _ h2 fun c hc o e => u3 c o (fun q => by subst q; exact hc.elim t3 t4) (hs₂ _ _ (fun q => hc.elim (D.hx c q).1 (D.hx c q).2) (u1 c o (fun q => by subst q; exact hc.elim z3 z4) e))
    refine wpAny_bind (S2.item _ k { s with heap := h₃ } _ _ hh k2 l2 fun y h₄ g2 v2 m4 hs₄ => wpAny_pure ?_)
    have hTO₄ : IsPair h₄ TO x b := hs₄ _ _ t3 hTO₃
    refine wpAny_bind (wpAny_seqItems hTO₄ rfl ?_)
    refine wpAny_bind (wpAny_updateSeq_pair hTO₄ fun h₅ hTO₅ hs₅ => ?_)
    replace hTO₅ : IsPair h₅ TO x y := hTO₅
    have u5 : ∀ c o, c ≠ TO → h₄.get? c = some o → h₅.get? c = some o := fun c o n e => hs₅.extBut _ _ n e
    refine wpAny_bind (wpAny_letGo (wpAny_pure (wpAny_pure ?_)))
    refine wpAny_bind (wpAny_seqItems hTO₅ rfl ?_)
    refine wpAny_bind (wpAny_newTuple ?_)
    have m5 : h₅.objs.size = s.heap.objs.size + a1 + a2 := by rw [hs₅.1, m4]; show h₃.objs.size + a2 = _; rw [m3]
    have hz₅ : ZO h₅ z TI TO .ellipsis f := u5 _ _ j5.symm (hs₄ _ _ z3 (u3 _ _ j5.symm hz₂))
    have q5 : ∀ c o, c ≠ z → c ≠ TO → c ∉ fp1 → c ∉ fp2 → s.heap.get? c = some o → h₅.get? c = some o := fun c o c1 c2 c3 c4 e => u5 c o c2 (hs₄ c o c4 (u3 c o c2 (hs₂ c o c3 (u1 c o c1 e))))
    have w3 : ∀ c o, c ≠ TO → c ∉ fp2 → h₂.get? c = some o → h₅.get? c = some o := fun c o c2 c4 e => u5 c o c2 (hs₄ c o c4 (u3 c o c2 e))
    show wpAny _ _ (Builtin.SmallTypes.ownedTupleHandOut (.ref z) (.ref h₅.objs.size) >>= _) _ _ _
    refine wpAny_bind ?_
    unfold Builtin.SmallTypes.ownedTupleHandOut
    have hz₆ : ZO (h₅.push { cls := .type "tuple", data := .seq #[x, y] }) z TI TO .ellipsis f := Heap.get?_push_of_some _ hz₅
    refine wpAny_bind (wpAny_setField_rec hz₆ (by simp) fun h₇ hz₇ hs₇ => ?_)
    replace hz₇ : ZO h₇ z TI TO (rawInt h₅.objs.size) f := hz₇
    refine wpAny_setField_rec hz₇ (by simp) fun h₈ hz₈ hs₈ => ?_
    replace hz₈ : ZO h₈ z TI TO (rawInt h₅.objs.size) false := hz₈
    have up : ∀ c o, c ≠ z → h₅.get? c = some o → h₈.get? c = some o := fun c o c1 e => hs₈.extBut _ _ c1 (hs₇.extBut _ _ c1 (Heap.get?_push_of_some _ e))
    have zn : h₅.objs.size ≠ z := Nat.ne_of_gt (Nat.lt_of_lt_of_le zl (by rw [m5]; omega))
    have hT₈ : IsPair h₈ h₅.objs.size x y := hs₈.extBut _ _ zn (hs₇.extBut _ _ zn (Heap.get?_push_size _ rfl))
    have m8 : h₈.objs.size = h₅.objs.size + 1 := by rw [hs₈.1, hs₇.1, Heap.size_push]
    rw [m5] at hz₈ hT₈ m8
    refine wpAny_pure ⟨_, rfl, ?_⟩
    show Q (.ref h₅.objs.size) _
    rw [m5]
    refine hQ h₈ x y _ false (.inr ⟨_, rfl⟩) (fun _ => ⟨rfl, rfl⟩) hz₈ ⟨_, _, up _ _ j5 hTO₅⟩ (up _ _ j3 (q5 _ _ j3 j4 j1 j2 hTI)) ?_ ?_ ?_ ?_ hT₈ (by omega) fun c o c1 c2 c3 c4 e => up c o c1 (q5 c o c1 c2 c3 c4 e)
    · exact S1.keep _ _ _ g1 fun c hc o e => up c o (fun q => by subst q; exact hc.elim z1 z2) (w3 c o (fun q => by subst q; exact hc.elim t1 t2) (fun q => hc.elim (D.hy c q).1 (D.hy c q).2) e)
    · exact S2.keep _ _ _ g2 fun c hc o e => up c o (fun q => by subst q; exact hc.elim z3 z4) (u5 c o (fun q => by subst q; exact hc.elim t3 t4) e)
    · refine S1.vk _ _ _ _ _ (show V1 k s.heap.objs.size x h₂ from m1 ▸ v1) fun c o hc e => up c o (Nat.ne_of_gt (Nat.lt_of_lt_of_le zl hc)) (w3 c o (Nat.ne_of_gt (Nat.lt_of_lt_of_le tl hc)) (fun q => ?_) e)
      exact absurd (Nat.lt_of_lt_of_le (p2 c q) hc) (Nat.lt_irrefl _)
    · refine S2.vk _ _ _ _ _ (show V2 k (s.heap.objs.size + a1) y h₄ from m3 ▸ v2) fun c o hc e => up c o (Nat.ne_of_gt (Nat.lt_of_lt_of_le zl (Nat.le_trans (Nat.le_add_right _ _) hc))) (u5 c o (Nat.ne_of_gt (Nat.lt_of_lt_of_le tl (Nat.le_trans (Nat.le_add_right _ _) hc))) e)
  · simp only [Bool.false_eq_true, if_false]
    refine wpAny_bind ?_
    rw [← Array.forIn_toList]
    simp only [List.forIn_cons, List.forIn_nil]
    refine wpAny_bind (wpAny_bind (wpAny_holding ?_))
    show wpAny _ _ (Builtin.SmallTypes.nextOf (.ref i1) >>= _) _ _ _
    have u1 : ∀ c o, c ≠ z → s.heap.get? c = some o → h₁.get? c = some o := fun c o n e => hs₁.extBut _ _ n e
    have m1 : h₁.objs.size = s.heap.objs.size := hs₁.1
    refine wpAny_bind (S1.item _ k { s with heap := h₁ } _ _ hh (S1.keep _ _ _ h1 fun c hc o e => u1 c o (fun q => by subst q; exact hc.elim z1 z2) e) l1 fun x h₂ g1 v1 m2 hs₂ => wpAny_pure ?_)
    refine wpAny_pure ?_
    refine wpAny_bind (wpAny_bind (wpAny_holding ?_))
    show wpAny _ _ (Builtin.SmallTypes.nextOf (.ref i2) >>= _) _ _ _
    have m2' : h₂.objs.size = s.heap.objs.size + a1 := by rw [m2]; show h₁.objs.size + a1 = _; rw [m1]
    have k2 : St2 k h₂ := S2.keep _ _ _ h2 fun c hc o e => (hs₂ _ _ (fun q => hc.elim (D.hx c q).1 (D.hx c q).2) (u1 c o (fun q => by subst q; exact hc.elim z3 z4) e))
    refine wpAny_bind (S2.item _ k { s with heap := h₂ } _ _ hh k2 l2 fun y h₃ g2 v2 m3 hs₃ => wpAny_pure ?_)
    refine wpAny_pure (wpAny_pure ?_)
    show wpAny _ _ (newTuple [x, y] >>= _) _ _ _
    refine wpAny_bind (wpAny_newTuple ?_)
    have m3' : h₃.objs.size = s.heap.objs.size + a1 + a2 := by rw [m3]; show h₂.objs.size + a2 = _; rw [m2']
    refine wpAny_pure ⟨_, rfl, ?_⟩
    show Q (.ref h₃.objs.size) _
    have hp : IsPair (h₃.push { cls := .type "tuple", data := .seq #[x, y] }) h₃.objs.size x y := Heap.get?_push_size _ rfl
    have hz4 : (h₃.push { cls := .type "tuple", data := .seq #[x, y] }).objs.size = h₃.objs.size + 1 := Heap.size_push ..
    rw [m3'] at hp hz4 ⊢
    have up : ∀ c o, h₃.get? c = some o → (h₃.push { cls := .type "tuple", data := .seq #[x, y] }).get? c = some o := fun c o e => Heap.get?_push_of_some _ e
    have q3 : ∀ c o, c ≠ z → c ∉ fp1 → c ∉ fp2 → s.heap.get? c = some o → h₃.get? c = some o := fun c o c1 c3 c4 e => hs₃ c o c4 (hs₂ c o c3 (u1 c o c1 e))
    refine hQ _ x y f0 true h0 (fun q => (hn q).elim) (up _ _ (hs₃ _ _ z3 (hs₂ _ _ z1 hz₁))) ⟨_, _, up _ _ (q3 _ _ j5 t1 t3 hTO)⟩ (up _ _ (q3 _ _ j3 j1 j2 hTI)) ?_ ?_ ?_ ?_ hp (hz4.trans (by omega)) fun c o c1 c2 c3 c4 e => up c o (q3 c o c1 c3 c4 e)
    · exact S1.keep _ _ _ g1 fun c hc o e => up c o (hs₃ c o (fun q => hc.elim (D.hy c q).1 (D.hy c q).2) e)
    · exact S2.keep _ _ _ g2 fun c hc o e => up c o e
    · refine S1.vk _ _ _ _ _ (show V1 k s.heap.objs.size x h₂ from m1 ▸ v1) fun c o hc e => up c o (hs₃ c o (fun q => ?_) e)
      exact absurd (Nat.lt_of_lt_of_le (p2 c q) hc) (Nat.lt_irrefl _)
    · exact S2.vk _ _ _ _ _ (show V2 k (s.heap.objs.size + a1) y h₃ from m2' ▸ v2) fun c o hc e => up c o e
/-- a zip's end -/
theorem zipc_end {i1 i2 z TI TO : Addr} {fp1 dp1 fp2 dp2 : List Addr} {n1 n2 a1 a2 k : Nat} {St1 St2 : Nat → Heap → Prop} {V1 V2 : Nat → Nat → Value → Heap → Prop} {f0 a b : Value} {f : Bool} {Q : PySem.Fin → Shared → Prop}
    (S1 : Src P w i1 fp1 dp1 n1 a1 St1 V1) (S2 : Src P w i2 fp2 dp2 n2 a2 St2 V2) (D : Ap z TI TO fp1 dp1 fp2 dp2) (hh : A.handled = none)
    (hz : ZO s.heap z TI TO f0 f) (h0 : F0 f0) (hTI : IsPair s.heap TI (.ref i1) (.ref i2)) (hTO : IsPair s.heap TO a b) (h1 : St1 k s.heap) (h2 : St2 k s.heap) (l : n1 ≤ k ∨ n2 ≤ k)
    (hE : ∀ h' e, (∀ c o, c ≠ z → c ≠ TO → c ∉ fp1 → c ∉ fp2 → s.heap.get? c = some o → h'.get? c = some o) → (∃ o, h'.get? e = some o ∧ o.cls = .type "StopIteration") → E (.ref e) { s with heap := h' }) :
    wpAny (model P w) A (Builtin.«zip.__next__» ⟨[.ref z], []⟩) Q E s := by
  obtain ⟨z1, z2, z3, z4⟩ := D.hz
  obtain ⟨t1, t2, t3, t4⟩ := D.ht
  obtain ⟨j1, j2, j3, j4, j5⟩ := D.hi
  show wpAny _ _ (field (.ref z) 2 >>= _) _ _ _
  refine wpAny_bind (wpAny_field hz rfl (x := .bool false) rfl ?_)
  show wpAny _ _ (field (.ref z) 3 >>= _) _ _ _
  refine wpAny_bind (wpAny_field hz rfl (x := .ref TI) rfl ?_)
  refine wpAny_bind (wpAny_seqItems hTI rfl ?_)
  show wpAny _ _ (Builtin.SmallTypes.ownedTupleIsFree (.ref z) >>= _) _ _ _
  refine wpAny_bind (zip_free hz h0 ?_ fun hn h₁ hz₁ hs₁ => ?_)
  · simp only [if_true]
    refine wpAny_bind (wpAny_rule ?_)
    refine wpAny_bind (wpAny_field hz rfl (x := .ref TO) rfl ?_)
    refine wpAny_bind (wpAny_setField_rec hz (by simp) fun h₁ hz₁ hs₁ => ?_)
    replace hz₁ : ZO h₁ z TI TO .ellipsis f := hz₁
    refine wpAny_bind ?_
    simp only [List.zipIdx_cons, List.zipIdx_nil, List.forIn_cons, List.forIn_nil]
    refine wpAny_bind (wpAny_bind (wpAny_onRaise ?_))
    show wpAny _ _ (Builtin.SmallTypes.nextOf (.ref i1) >>= _) _ _ _
    have u1 : ∀ c o, c ≠ z → s.heap.get? c = some o → h₁.get? c = some o := fun c o n e => hs₁.extBut _ _ n e
    have k1 : St1 k h₁ := S1.keep _ _ _ h1 fun c hc o e => u1 c o (fun q => by subst q; exact hc.elim z1 z2) e
    by_cases c1 : n1 ≤ k
    · refine wpAny_bind (S1.done _ k { s with heap := h₁ } _ _ hh k1 c1 fun h₂ e hs₂ he => ?_)
      obtain ⟨oe, hoe, hce⟩ := he
      have hz₂ : ZO h₂ z TI TO .ellipsis f := hs₂ _ _ z1 hz₁
      have hez : e ≠ z := fun x => by subst x; rw [hz₂] at hoe; cases hoe; simp at hce
      exact wpAny_setField_rec hz₂ (by simp) fun h₃ _ hs₃ => hE h₃ e (fun c o c1 _ c3 _ x => hs₃.extBut _ _ c1 (hs₂ _ _ c3 (u1 _ _ c1 x))) ⟨oe, hs₃.extBut _ _ hez hoe, hce⟩
    · refine wpAny_bind (S1.item _ k { s with heap := h₁ } _ _ hh k1 (by omega) fun x h₂ g1 v1 m2 hs₂ => wpAny_pure ?_)
      have hTO₂ : IsPair h₂ TO a b := hs₂ _ _ t1 (u1 _ _ j5 hTO)
      have hz₂ : ZO h₂ z TI TO .ellipsis f := hs₂ _ _ z1 hz₁
      refine wpAny_bind (wpAny_seqItems hTO₂ rfl ?_)
      refine wpAny_bind (wpAny_updateSeq_pair hTO₂ fun h₃ hTO₃ hs₃ => ?_)
      have u3 : ∀ c o, c ≠ TO → h₂.get? c = some o → h₃.get? c = some o := fun c o n e => hs₃.extBut _ _ n e
      refine wpAny_bind (wpAny_letGo (wpAny_pure ?_))
      refine wpAny_bind (wpAny_bind (wpAny_onRaise ?_))
      show wpAny _ _ (Builtin.SmallTypes.nextOf (.ref i2) >>= _) _ _ _
      have k2 : St2 k h₃ := S2.keep _ _ _ h2 fun c hc o e => u3 c o (fun q => by subst q; exact hc.elim t3 t4) (hs₂ _ _ (fun q => hc.elim (D.hx c q).1 (D.hx c q).2) (u1 c o (fun q => by subst q; exact hc.elim z3 z4) e))
      refine wpAny_bind (S2.done _ k { s with heap := h₃ } _ _ hh k2 (by omega) fun h₄ e hs₄ he => ?_)
      obtain ⟨oe, hoe, hce⟩ := he
      have hz₄ : ZO h₄ z TI TO .ellipsis f := hs₄ _ _ z3 (u3 _ _ j5.symm hz₂)
      have hez : e ≠ z := fun x => by subst x; rw [hz₄] at hoe; cases hoe; simp at hce
      exact wpAny_setField_rec hz₄ (by simp) fun h₅ _ hs₅ => hE h₅ e (fun c o c1 c2 c3 c4 x => hs₅.extBut _ _ c1 (hs₄ _ _ c4 (u3 _ _ c2 (hs₂ _ _ c3 (u1 _ _ c1 x))))) ⟨oe, hs₅.extBut _ _ hez hoe, hce⟩
  · simp only [Bool.false_eq_true, if_false]
    refine wpAny_bind ?_
    rw [← Array.forIn_toList]
    simp only [List.forIn_cons, List.forIn_nil]
    refine wpAny_bind (wpAny_bind (wpAny_holding ?_))
    show wpAny _ _ (Builtin.SmallTypes.nextOf (.ref i1) >>= _) _ _ _
    have u1 : ∀ c o, c ≠ z → s.heap.get? c = some o → h₁.get? c = some o := fun c o n e => hs₁.extBut _ _ n e
    have k1 : St1 k h₁ := S1.keep _ _ _ h1 fun c hc o e => u1 c o (fun q => by subst q; exact hc.elim z1 z2) e
    by_cases c1 : n1 ≤ k
    · exact wpAny_bind (S1.done _ k { s with heap := h₁ } _ _ hh k1 c1 fun h₂ e hs₂ he => hE h₂ e (fun c o c1 _ c3 _ x => hs₂ _ _ c3 (u1 _ _ c1 x)) he)
    · refine wpAny_bind (S1.item _ k { s with heap := h₁ } _ _ hh k1 (by omega) fun x h₂ g1 v1 m2 hs₂ => wpAny_pure ?_)
      refine wpAny_pure ?_
      refine wpAny_bind (wpAny_bind (wpAny_holding ?_))
      show wpAny _ _ (Builtin.SmallTypes.nextOf (.ref i2) >>= _) _ _ _
      have k2 : St2 k h₂ := S2.keep _ _ _ h2 fun c hc o e => (hs₂ _ _ (fun q => hc.elim (D.hx c q).1 (D.hx c q).2) (u1 c o (fun q => by subst q; exact hc.elim z3 z4) e))
      exact wpAny_bind (S2.done _ k { s with heap := h₂ } _ _ hh k2 (by omega) fun h₃ e hs₃ he => hE h₃ e (fun c o c1 c2 c3 c4 x => hs₃ _ _ c4 (hs₂ _ _ c3 (u1 _ _ c1 x))) he)
end
end
end Mp
end

/-! ## MpZpz -/
section
set_option linter.all false
set_option maxRecDepth 100000
set_option maxHeartbeats 1000000
/-! Mp: zip of a zip of two tuples and a list. -/
namespace Mp
open PySem PySem.Spec PyProof.Rows L2
section
variable {P : Program} {w : World}
/-- a zip draws from a zip -/
theorem Src.zip {i1 i2 z TI TO : Addr} {fp1 dp1 fp2 dp2 : List Addr} {n1 n2 a1 a2 : Nat} {St1 St2 : Nat → Heap → Prop} {V1 V2 : Nat → Nat → Value → Heap → Prop}
    (S1 : Src P w i1 fp1 dp1 n1 a1 St1 V1) (S2 : Src P w i2 fp2 dp2 n2 a2 St2 V2) (D : Ap z TI TO fp1 dp1 fp2 dp2) :
    Src P w z (z :: TO :: (fp1 ++ fp2)) (TI :: (dp1 ++ dp2)) (min n1 n2) (a1 + a2 + 1)
      (fun k h => (∃ f0 f a b, F0 f0 ∧ ZO h z TI TO f0 f ∧ IsPair h TI (.ref i1) (.ref i2) ∧ IsPair h TO a b) ∧ St1 k h ∧ St2 k h)
      (fun k b v h => ∃ x y, v = .ref (b + a1 + a2 : Nat) ∧ V1 k b x h ∧ V2 k (b + a1) y h ∧ IsPair h (b + a1 + a2) x y) where
  item := fun A k s Q E hh ⟨⟨f0, f, a, b, h0, hz, hTI, hTO⟩, h1, h2⟩ hk q => by
    have hT : s.TypeIs (.ref z) "zip" := ⟨_, hz, rfl⟩
    unfold Builtin.SmallTypes.nextOf
    refine wpAny_bind (wpAny_callSpecial?_slot (name := Str.ofString "__next__") hT F.slot_zip_next
      (wpAny_call_entry F.slot_zip_next hT F.entry_zip_next (zipc_item S1 S2 D (by simp [hh]) hz h0 hTI hTO h1 h2 (by omega) (by omega) fun h' x y g0 g e1 _ e2 ⟨a', b', e3⟩ e4 e5 e6 e7 e8 e9 e10 e11 => wpAny_pure ?_) (F.args_zip_next_1 _)))
    refine q _ h' ⟨⟨g0, g, a', b', e1, e2, e4, e3⟩, e5, e6⟩ ⟨x, y, rfl, e7, e8, e9⟩ (by rw [e10]) fun c o n e => ?_
    simp only [List.mem_cons, List.mem_append, not_or] at n
    exact e11 c o n.1 n.2.1 n.2.2.1 n.2.2.2 e
  done := fun A k s Q E hh ⟨⟨f0, f, a, b, h0, hz, hTI, hTO⟩, h1, h2⟩ hk q => by
    have hT : s.TypeIs (.ref z) "zip" := ⟨_, hz, rfl⟩
    unfold Builtin.SmallTypes.nextOf
    refine wpAny_bind (wpAny_callSpecial?_slot (name := Str.ofString "__next__") hT F.slot_zip_next
      (wpAny_call_entry F.slot_zip_next hT F.entry_zip_next (zipc_end S1 S2 D (by simp [hh]) hz h0 hTI hTO h1 h2 (by omega) fun h' e e1 e2 => q h' e (fun c o n x => ?_) e2) (F.args_zip_next_1 _)))
    simp only [List.mem_cons, List.mem_append, not_or] at n
    exact e1 c o n.1 n.2.1 n.2.2.1 n.2.2.2 x
  keep := fun k h h' ⟨⟨f0, f, a, b, h0, hz, hTI, hTO⟩, h1, h2⟩ x => ⟨⟨f0, f, a, b, h0, x z (.inl (by simp)) _ hz, x TI (.inr (by simp)) _ hTI, x TO (.inl (by simp)) _ hTO⟩,
    S1.keep _ _ _ h1 fun c hc o e => x c (hc.imp (fun q => by simp [q]) (fun q => by simp [q])) o e, S2.keep _ _ _ h2 fun c hc o e => x c (hc.imp (fun q => by simp [q]) (fun q => by simp [q])) o e⟩
  dom := fun k h ⟨⟨f0, f, a, b, h0, hz, hTI, hTO⟩, h1, h2⟩ c hc => by
    simp only [List.mem_cons, List.mem_append] at hc
    rcases hc with rfl | rfl | hc | hc
    · exact ⟨_, hz, fun v q => nomatch q⟩
    · exact ⟨_, hTO, fun v q => nomatch q⟩
    · exact S1.dom k h h1 c hc
    · exact S2.dom k h h2 c hc
  vk := fun k b v h h' ⟨x, y, e1, e2, e3, e4⟩ q => ⟨x, y, e1, S1.vk _ _ _ _ _ e2 q, S2.vk _ _ _ _ _ e3 fun c o hc e => q c o (Nat.le_trans (Nat.le_add_right _ _) hc) e, q _ _ (by rw [Nat.add_assoc]; exact Nat.le_add_right _ _) e4⟩
/-! ### zip(a zip, a list): made -/
abbrev zzH1 (h : Heap) (c : Addr) : Heap := h.push { cls := .type "list_iterator", data := .fields #[.ref c, .int 0 0] }
abbrev zzH2 (h : Heap) (z c : Addr) : Heap := (zzH1 h c).push { cls := .type "tuple", data := .seq #[.ref z, .ref h.objs.size] }
abbrev zzH3 (h : Heap) (z c : Addr) : Heap := (zzH2 h z c).push { cls := .type "tuple", data := .seq #[.none, .none] }
abbrev zzH4 (h : Heap) (z c : Addr) : Heap := (zzH3 h z c).push { cls := .type "zip", data := .fields #[.none, .bool false, .bool false, .ref (zzH1 h c).objs.size, .ref (zzH2 h z c).objs.size] }
theorem meets_zipzip (z c TI TO : Addr) (f0 : Value) (zs : Array Value) :
    Meets (Builtin.«zip.__new__» ⟨[.type "zip", .ref z, .ref c], []⟩) (fun _ R s => ZO s.heap z TI TO f0 false ∧ s.heap.IsList c zs ∧
      R (.ok (.ret (.ref (zzH3 s.heap z c).objs.size))) { s with heap := zzH4 s.heap z c }) :=
  .of_wp fun prog w A R s h => by
    obtain ⟨hp, g, d, tk, os⟩ := s; obtain ⟨hl1, hl2, h⟩ := h
    have hsub := sub_zip
    have hL1 : IsZip (Shared.heap ⟨hp, g, d, tk, os⟩) z TI TO f0 := hl1
    have hL2 : Heap.IsList (Shared.heap ⟨hp, g, d, tk, os⟩) c zs := hl2
    wp_walk using wpAny_pyIter_zip hL1, wpAny_pyIter_list hL2
    exact ⟨_, rfl, h⟩
section
variable {A : Around} {E : Value → Shared → Prop} {s : Shared}
theorem call_zipzip {z c TI TO : Addr} {f0 : Value} {zs : Array Value} {Q : Value → Shared → Prop} (hl1 : ZO s.heap z TI TO f0 false) (hl2 : s.heap.IsList c zs)
    (h : ∀ h', ZO h' (s.heap.objs.size + 3) (s.heap.objs.size + 1) (s.heap.objs.size + 2) .none false → IsPair h' (s.heap.objs.size + 1) (.ref z) (.ref s.heap.objs.size) →
      IsPair h' (s.heap.objs.size + 2) .none .none → h'.IsListIter s.heap.objs.size c 0 →
      (∀ c o, s.heap.get? c = some o → h'.get? c = some o) → Q (.ref (s.heap.objs.size + 3)) { s with heap := h' }) :
    wpAny (model P w) A (call (.type "zip") [.ref z, .ref c]) Q E s := by
  refine callType_new F.called_zip (by decide) (F.typeCall_zip_2 _ _) (F.newCall_zip_2 _ _) (fun obj => F.args_object_init_3 obj _ _) F.entry_zip_new
    (meets_zipzip z c TI TO f0 zs) ⟨hl1, hl2, ?_⟩
  have z1 : (zzH1 s.heap c).objs.size = s.heap.objs.size + 1 := Heap.size_push ..
  have z2 : (zzH2 s.heap z c).objs.size = s.heap.objs.size + 2 := by rw [Heap.size_push, z1]
  have z3 : (zzH3 s.heap z c).objs.size = s.heap.objs.size + 3 := by rw [Heap.size_push, z2]
  have g4 : (zzH4 s.heap z c).get? (zzH3 s.heap z c).objs.size = some _ := Heap.get?_push_size _ rfl
  have g3 : (zzH4 s.heap z c).get? (zzH2 s.heap z c).objs.size = some _ := Heap.get?_push_of_some _ (Heap.get?_push_size _ rfl)
  have g2 : (zzH4 s.heap z c).get? (zzH1 s.heap c).objs.size = some _ := Heap.get?_push_of_some _ (Heap.get?_push_of_some _ (Heap.get?_push_size _ rfl))
  have g1 : (zzH4 s.heap z c).get? s.heap.objs.size = some _ := Heap.get?_push_of_some _ (Heap.get?_push_of_some _ (Heap.get?_push_of_some _ (Heap.get?_push_size _ rfl)))
  show _ ∧ _
  rw [z1, z2, z3] at g4
  rw [z1] at g2
  rw [z2] at g3
  rw [z3]
  exact ⟨⟨_, g4, rfl⟩, h _ g4 g2 g3 ⟨_, g1, rfl, rfl⟩ fun b o x => Heap.get?_push_of_some _ (Heap.get?_push_of_some _ (Heap.get?_push_of_some _ (Heap.get?_push_of_some _ x)))⟩
end
end
end Mp
end

/-! ## MpZpz2 -/
section
set_option linter.all false
set_option maxRecDepth 100000
set_option maxHeartbeats 1000000
namespace Mp
open PySem PySem.Spec PyProof.Rows L2
/-- two tuples and a list as they stand at each turn -/
def Izz (K : PySem.W.Frag) (a b c : Addr) : L2.It :=
  ⟨fun i H => ∃ (xs ys zs : List V) (x y z : V), SqT K H a xs ∧ SqT K H b ys ∧ SqL K H c zs ∧ xs[i]? = some x ∧ ys[i]? = some y ∧ zs[i]? = some z,
    fun i H v H' => ∃ (T U : Addr) (x y z : V), v = .ref U ∧ H T = none ∧ H U = none ∧ T ≠ U ∧ H' = upd (upd H T (.tup [x, y])) U (.tup [.ref T, z]) ∧ (∀ xs, SqT K H a xs → xs[i]? = some x) ∧ (∀ ys, SqT K H b ys → ys[i]? = some y) ∧ ∀ zs, SqL K H c zs → zs[i]? = some z,
    fun i H => ∃ xs ys zs : List V, SqT K H a xs ∧ SqT K H b ys ∧ SqL K H c zs ∧ (xs.length ≤ i ∨ ys.length ≤ i ∨ zs.length ≤ i)⟩
/-- where the zips' objects stand -/
structure Az (z TI TO i1 i2 Z UI UO i3 a b c : Addr) : Prop where
  nd : [z, TI, TO, i1, i2, Z, UI, UO, i3].Nodup
  na : a ∉ [z, TI, TO, i1, i2, Z, UI, UO, i3]
  nb : b ∉ [z, TI, TO, i1, i2, Z, UI, UO, i3]
  nc : c ∉ [z, TI, TO, i1, i2, Z, UI, UO, i3]
section
variable {z TI TO i1 i2 Z UI UO i3 a b c : Addr}
theorem Az.in1 (D : Az z TI TO i1 i2 Z UI UO i3 a b c) : Ap z TI TO [i1] [a] [i2] [b] := by
  obtain ⟨nd, na, nb, nc⟩ := D
  simp only [List.nodup_cons, List.mem_cons, List.not_mem_nil, or_false, not_or, List.nodup_nil, and_true] at nd na nb nc
  refine ⟨?_, ?_, ?_, ?_, ?_⟩ <;> simp only [List.mem_cons, List.not_mem_nil, or_false, forall_eq] <;> grind
theorem Az.out (D : Az z TI TO i1 i2 Z UI UO i3 a b c) : Ap Z UI UO (z :: TO :: ([i1] ++ [i2])) (TI :: ([a] ++ [b])) [i3] [c] := by
  obtain ⟨nd, na, nb, nc⟩ := D
  simp only [List.nodup_cons, List.mem_cons, List.not_mem_nil, or_false, not_or, List.nodup_nil, and_true] at nd na nb nc
  refine ⟨?_, ?_, ?_, ?_, ?_⟩ <;> simp only [List.mem_cons, List.mem_append, List.not_mem_nil, or_false, forall_eq, not_or] <;> grind
/-- the inner zip as it stands -/
def Zin (z TI TO i1 i2 a b : Addr) (k : Nat) (h : Heap) : Prop := (∃ f0 f a b, F0 f0 ∧ ZO h z TI TO f0 f ∧ IsPair h TI (.ref i1) (.ref i2) ∧ IsPair h TO a b) ∧ h.IsTupleIter i1 a k ∧ h.IsTupleIter i2 b k
def Zall (z TI TO i1 i2 Z UI UO i3 a b c : Addr) (k : Nat) (h : Heap) : Prop := Zin z TI TO i1 i2 a b k h ∧ IsZip h Z UI UO .none ∧ IsPair h UI (.ref z) (.ref i3) ∧ (∃ x y, IsPair h UO x y) ∧ h.IsListIter i3 c k
theorem turn_zz {P : Program} {w : World} {K : PySem.W.Frag} {elts : List Expr} {kk : Nat} {tpos : Pos} (D : Az z TI TO i1 i2 Z UI UO i3 a b c) :
    Turn P w K (.Tuple elts kk tpos) (Izz K a b c) [z, TI, TO, i1, i2, Z, UI, UO, i3] Z (Zall z TI TO i1 i2 Z UI UO i3 a b c) where
  mem := by simp
  obj := fun i h st y hy => by
    obtain ⟨⟨⟨f0, f, p, q, _, hz, hTI, hTO⟩, ⟨o1, e1, _, d1⟩, ⟨o2, e2, _, d2⟩⟩, hZ, hUI, ⟨u, v, hUO⟩, ⟨o3, e3, _, d3⟩⟩ := st
    simp only [List.mem_cons, List.not_mem_nil, or_false] at hy
    rcases hy with rfl | rfl | rfl | rfl | rfl | rfl | rfl | rfl | rfl
    · exact ⟨_, hz, fun v q => nomatch q⟩
    · exact ⟨_, hTI, fun v q => nomatch q⟩
    · exact ⟨_, hTO, fun v q => nomatch q⟩
    · exact ⟨o1, e1, fun v q => by rw [d1] at q; cases q⟩
    · exact ⟨o2, e2, fun v q => by rw [d2] at q; cases q⟩
    · exact ⟨_, hZ, fun v q => nomatch q⟩
    · exact ⟨_, hUI, fun v q => nomatch q⟩
    · exact ⟨_, hUO, fun v q => nomatch q⟩
    · exact ⟨o3, e3, fun v q => by rw [d3] at q; cases q⟩
  keep := fun i h h' st k => by
    obtain ⟨⟨⟨f0, f, p, q, g0, hz, hTI, hTO⟩, h1, h2⟩, hZ, hUI, ⟨u, v, hUO⟩, h3⟩ := st
    exact ⟨⟨⟨f0, f, p, q, g0, k _ (by simp) _ hz, k _ (by simp) _ hTI, k _ (by simp) _ hTO⟩, h1.at fun o q => k _ (by simp) o q, h2.at fun o q => k _ (by simp) o q⟩, k _ (by simp) _ hZ, k _ (by simp) _ hUI, ⟨u, v, k _ (by simp) _ hUO⟩, h3.at fun o q => k _ (by simp) o q⟩
  item := by
    intro X hP hw hK hc i pins s σ H E I hf st hg
    subst hP hw hK
    obtain ⟨⟨hin, h1, h2⟩, hZ, hUI, ⟨u0, v0, hUO⟩, h3⟩ := st
    obtain ⟨xs, ys, zs, x, y, e, hqx, hqy, hqz, hx, hy, he⟩ := hg
    obtain ⟨its, rv, p, _⟩ := I.tuple hqx
    obtain ⟨its2, rv2, p2, _⟩ := I.tuple hqy
    obtain ⟨its3, rv3, p3, _⟩ := I.list hqz
    obtain ⟨u, hu, ru⟩ := rv.get hx
    obtain ⟨u2, hu2, ru2⟩ := rv2.get hy
    obtain ⟨u3, hu3, ru3⟩ := rv3.get he
    have nd := D.nd
    have na := D.na
    have nb := D.nb
    have nc := D.nc
    simp only [List.nodup_cons, List.mem_cons, List.not_mem_nil, or_false, not_or, List.nodup_nil, and_true] at nd na nb nc
    have ea : i1 ≠ a := fun q => na.2.2.2.1 q.symm
    have eb : i2 ≠ b := fun q => nb.2.2.2.2.1 q.symm
    have ec : i3 ≠ c := fun q => nc.2.2.2.2.2.2.2.2 q.symm
    have S := (Src.tup (P := X.prog) (w := X.w) ea its.toArray).zip (Src.tup eb its2.toArray) D.in1
    have S3 := Src.lst (P := X.prog) (w := X.w) ec its3.toArray
    have l1 : i < its.toArray.size := by
      have := (List.getElem?_eq_some_iff.mp hu).1
      simpa using this
    have l2 : i < its2.toArray.size := by
      have := (List.getElem?_eq_some_iff.mp hu2).1
      simpa using this
    have l3 : i < its3.toArray.size := by
      have := (List.getElem?_eq_some_iff.mp hu3).1
      simpa using this
    have hT : s.TypeIs (.ref Z) "zip" := ⟨_, hZ, rfl⟩
    unfold pyNext
    refine wpAny_bind (wpAny_attempt (wpAny_callSpecial?_slot (name := Str.ofString "__next__") hT F.slot_zip_next
      (wpAny_call_entry F.slot_zip_next hT F.entry_zip_next (zipc_item S S3 D.out (by simp [I.ok.hd hc]) hZ (.inl rfl) hUI hUO ⟨hin, ⟨h1, p⟩, ⟨h2, p2⟩⟩ ⟨h3, p3.isList⟩ (by omega) l3 fun h' vx vy g0 g _ e2 e3 ⟨a', b', e4⟩ e5 ⟨i1', ⟨i2', _⟩, ⟨i3', _⟩⟩ ⟨i4', _⟩ e8 e9 e10 e11 e12 => wpAny_pure ?_) (F.args_zip_next_1 _))))
    obtain ⟨rfl, rfl⟩ := e2 rfl
    obtain ⟨wx, wy, rfl, w1, w2, w3⟩ := e8
    simp only [Nat.add_zero, Nat.zero_add] at e3 e9 e10 e11 w2 w3 ⊢
    have k1 : wx = u := by
      rw [List.getElem?_toArray, hu] at w1
      exact (Option.some.inj w1).symm
    have k2 : wy = u2 := by
      rw [List.getElem?_toArray, hu2] at w2
      exact (Option.some.inj w2).symm
    have k3 : vy = u3 := by
      rw [List.getElem?_toArray, hu3] at e9
      exact (Option.some.inj e9).symm
    subst k1 k2 k3
    refine ⟨_, rfl, wpAny_letOwnedTupleGo_zip (s := { s with heap := h' }) e3 fun h'' z'' sb => ?_⟩
    have lt : ∀ q ∈ [z, TI, TO, i1, i2, Z, UI, UO, i3], @LT.lt Nat _ q s.heap.objs.size := fun q hq => by
      obtain ⟨o, ho, _⟩ := turn_zz.dom ⟨⟨hin, h1, h2⟩, hZ, hUI, ⟨u0, v0, hUO⟩, h3⟩ q hq
      exact Heap.lt_size ho
    have zl : @LT.lt Nat _ Z s.heap.objs.size := lt Z (by simp)
    have up : ∀ q o, q ≠ Z → h'.get? q = some o → h''.get? q = some o := fun q o n e => sb.extBut _ _ n e
    have n1 : s.heap.objs.size ≠ Z := Nat.ne_of_gt zl
    have n2 : s.heap.objs.size + 1 ≠ Z := Nat.ne_of_gt (Nat.lt_succ_of_lt zl)
    have hp1 : h''.get? s.heap.objs.size = some { cls := .type "tuple", data := .seq #[wx, wy] } := up _ _ n1 w3
    have hp2 : h''.get? (s.heap.objs.size + 1) = some { cls := .type "tuple", data := .seq #[.ref s.heap.objs.size, vy] } := up _ _ n2 e10
    -- the first new tuple, laid
    have sz1 : (s.heap.push { cls := .type "tuple", data := .seq #[wx, wy] }).objs.size = s.heap.objs.size + 1 := Heap.size_push ..
    have new1 : ObjOk X.prog X.w (upd H s.heap.objs.size (.tup [x, y])) (s.heap.push { cls := .type "tuple", data := .seq #[wx, wy] }) s.heap.objs.size (.tup [x, y]) :=
      ⟨by show 2 ≤ sizeLine; decide, [wx, wy], .cons ru (.cons ru2 .nil), ⟨_, Heap.get?_push_size _ rfl, rfl, _, rfl⟩⟩
    have I1 : Inv X pins σ (upd H s.heap.objs.size (.tup [x, y])) { s with heap := s.heap.push { cls := .type "tuple", data := .seq #[wx, wy] } } :=
      I.laid (t' := s.toks) (fun b u e => Heap.get?_push_of_some _ e) (Nat.le_refl _) new1
    have hf1 : ∀ q ∈ [z, TI, TO, i1, i2, Z, UI, UO, i3], FpOk X pins (upd H s.heap.objs.size (.tup [x, y])) q := fun q hq =>
      ⟨by rw [upd_ne (Nat.ne_of_lt (lt q hq))]; exact (hf q hq).1, (hf q hq).2⟩
    have new2 : ObjOk X.prog X.w (upd (upd H s.heap.objs.size (.tup [x, y])) (s.heap.objs.size + 1 : Nat) (.tup [.ref s.heap.objs.size, e])) h'' (s.heap.objs.size + 1 : Nat) (.tup [.ref s.heap.objs.size, e]) :=
      ⟨by show 2 ≤ sizeLine; decide, [.ref s.heap.objs.size, vy], .cons rfl (.cons ru3 .nil), ⟨_, hp2, rfl, _, rfl⟩⟩
    have fr : ∀ q o, q ∉ [z, TI, TO, i1, i2, Z, UI, UO, i3] → s.heap.get? q = some o → h''.get? q = some o := fun q o hq e => by
      simp only [List.mem_cons, List.not_mem_nil, or_false, not_or] at hq
      refine up _ _ (fun k => hq.2.2.2.2.2.1 k) (e12 q o (fun k => hq.2.2.2.2.2.1 k) (fun k => hq.2.2.2.2.2.2.2.1 k) ?_ ?_ e)
      · simp only [List.mem_cons, List.mem_append, List.not_mem_nil, or_false, not_or]
        exact ⟨hq.1, hq.2.2.1, hq.2.2.2.1, hq.2.2.2.2.1⟩
      · simp only [List.mem_cons, List.not_mem_nil, or_false]
        exact hq.2.2.2.2.2.2.2.2
    have I2 : Inv X pins σ (upd (upd H s.heap.objs.size (.tup [x, y])) (s.heap.objs.size + 1 : Nat) (.tup [.ref s.heap.objs.size, e])) { s with heap := h'' } :=
      I1.turnedNew (t' := s.toks) (ch := [z, TI, TO, i1, i2, Z, UI, UO, i3]) (fun q o hb k => by
        by_cases hq : q = s.heap.objs.size
        · subst hq
          have : (s.heap.push { cls := .type "tuple", data := .seq #[wx, wy] }).get? s.heap.objs.size = some { cls := .type "tuple", data := .seq #[wx, wy] } := Heap.get?_push_size _ rfl
          rw [this] at k
          cases k
          exact hp1
        · refine fr q o hb ?_
          have hlt : @LT.lt Nat _ q (s.heap.objs.size + 1) := by
            rw [← sz1]
            exact Heap.lt_size k
          have hlt2 : @LT.lt Nat _ q s.heap.objs.size := Nat.lt_of_le_of_ne (Nat.le_of_lt_succ hlt) hq
          rw [Heap.get?_push_ne _ _ _ hq] at k
          exact k) hf1 (by rw [sz1]; exact Nat.le_refl _) new2
    have nT : H s.heap.objs.size = none := I.hok.fresh (Nat.le_refl _)
    have nU : H (s.heap.objs.size + 1 : Nat) = none := I.hok.fresh (Nat.le_succ _)
    refine ⟨.ref (s.heap.objs.size + 1 : Nat), _, I2, rfl, ⟨_, _, x, y, e, rfl, nT, nU, Nat.ne_of_lt (Nat.lt_succ_self _), rfl, fun l hl => by rw [I.tuple_inj hl hqx]; exact hx, fun l hl => by rw [I.tuple_inj hl hqy]; exact hy, fun l hl => by rw [I.list_inj hl hqz]; exact he⟩, ⟨⟨?_, ?_, ?_⟩, z'', ?_, ⟨a', b', ?_⟩, ?_⟩, fun q hq => ?_⟩
    · obtain ⟨f0, f, p', q', g0, gz, gTI, gTO⟩ := i1'
      exact ⟨f0, f, p', q', g0, up _ _ (by grind) gz, up _ _ (by grind) gTI, up _ _ (by grind) gTO⟩
    · exact i2'.at fun o q => up _ _ (by grind) q
    · exact i3'.at fun o q => up _ _ (by grind) q
    · exact up _ _ (by grind) e5
    · exact up _ _ (by grind) e4
    · exact i4'.at fun o q => up _ _ (by grind) q
    · rw [upd_ne (Nat.ne_of_lt (Nat.lt_succ_of_lt (lt q hq)))]
      exact (hf1 q hq).1
  done := by
    intro X hP hw hK hc i pins s σ H E I hf st hg
    subst hP hw hK
    obtain ⟨⟨hin, h1, h2⟩, hZ, hUI, ⟨u0, v0, hUO⟩, h3⟩ := st
    obtain ⟨xs, ys, zs, hqx, hqy, hqz, hend⟩ := hg
    obtain ⟨its, rv, p, _⟩ := I.tuple hqx
    obtain ⟨its2, rv2, p2, _⟩ := I.tuple hqy
    obtain ⟨its3, rv3, p3, _⟩ := I.list hqz
    have nd := D.nd
    have na := D.na
    have nb := D.nb
    have nc := D.nc
    simp only [List.nodup_cons, List.mem_cons, List.not_mem_nil, or_false, not_or, List.nodup_nil, and_true] at nd na nb nc
    have ea : i1 ≠ a := fun q => na.2.2.2.1 q.symm
    have eb : i2 ≠ b := fun q => nb.2.2.2.2.1 q.symm
    have ec : i3 ≠ c := fun q => nc.2.2.2.2.2.2.2.2 q.symm
    have S := (Src.tup (P := X.prog) (w := X.w) ea its.toArray).zip (Src.tup eb its2.toArray) D.in1
    have S3 := Src.lst (P := X.prog) (w := X.w) ec its3.toArray
    have l1 := rv.length
    have l2 := rv2.length
    have l3 := rv3.length
    have hT : s.TypeIs (.ref Z) "zip" := ⟨_, hZ, rfl⟩
    unfold pyNext
    refine wpAny_bind (wpAny_attempt (wpAny_callSpecial?_slot (name := Str.ofString "__next__") hT F.slot_zip_next
      (wpAny_call_entry F.slot_zip_next hT F.entry_zip_next (zipc_end S S3 D.out (by simp [I.ok.hd hc]) hZ (.inl rfl) hUI hUO ⟨hin, ⟨h1, p⟩, ⟨h2, p2⟩⟩ ⟨h3, p3.isList⟩ (by simp only [List.size_toArray]; omega) fun h' e e1 e2 => ?_) (F.args_zip_next_1 _))))
    obtain ⟨o, ho, hcl⟩ := e2
    refine wpAny_bind (wpAny_isInstance (T := "StopIteration") (b := true) ⟨o, ho, hcl⟩ isSubtype_stop ?_)
    refine wpAny_pure ⟨rfl, I.turnedL (t' := s.toks) (ch := [z, TI, TO, i1, i2, Z, UI, UO, i3]) (fun q o hq k => ?_) hf⟩
    simp only [List.mem_cons, List.not_mem_nil, or_false, not_or] at hq
    refine e1 q o (fun k => hq.2.2.2.2.2.1 k) (fun k => hq.2.2.2.2.2.2.2.1 k) ?_ ?_ k
    · simp only [List.mem_cons, List.mem_append, List.not_mem_nil, or_false, not_or]
      exact ⟨hq.1, hq.2.2.1, hq.2.2.2.1, hq.2.2.2.2.1⟩
    · simp only [List.mem_cons, List.not_mem_nil, or_false]
      exact hq.2.2.2.2.2.2.2.2
  self := fun A i s Q E st h => wpAny_pyIter_zip st.2.1 h
where
  dom {z TI TO i1 i2 Z UI UO i3 a b c : Addr} {i : Nat} {h : Heap} (st : Zall z TI TO i1 i2 Z UI UO i3 a b c i h) : ∀ y ∈ [z, TI, TO, i1, i2, Z, UI, UO, i3], ∃ o, h.get? y = some o ∧ ∀ v, o.data ≠ .cell v := fun y hy => by
    obtain ⟨⟨⟨f0, f, p, q, _, hz, hTI, hTO⟩, ⟨o1, e1, _, d1⟩, ⟨o2, e2, _, d2⟩⟩, hZ, hUI, ⟨u, v, hUO⟩, ⟨o3, e3, _, d3⟩⟩ := st
    simp only [List.mem_cons, List.not_mem_nil, or_false] at hy
    rcases hy with rfl | rfl | rfl | rfl | rfl | rfl | rfl | rfl | rfl
    · exact ⟨_, hz, fun v q => nomatch q⟩
    · exact ⟨_, hTI, fun v q => nomatch q⟩
    · exact ⟨_, hTO, fun v q => nomatch q⟩
    · exact ⟨o1, e1, fun v q => by rw [d1] at q; cases q⟩
    · exact ⟨o2, e2, fun v q => by rw [d2] at q; cases q⟩
    · exact ⟨_, hZ, fun v q => nomatch q⟩
    · exact ⟨_, hUI, fun v q => nomatch q⟩
    · exact ⟨_, hUO, fun v q => nomatch q⟩
    · exact ⟨o3, e3, fun v q => by rw [d3] at q; cases q⟩
end
end Mp
end

/-! ## MpZpz3 -/
section
set_option linter.all false
set_option maxRecDepth 100000
set_option maxHeartbeats 1000000
namespace Mp
open PySem PySem.Spec PyProof.Rows L2
theorem IOk.zz {K : PySem.W.Frag} {F : Addr → Prop} {H : Hp} {a b c : Addr} {ds es fs : List D} (r1 : Rv K F H (.ref a) (.tuple ds)) (r2 : Rv K F H (.ref b) (.tuple es)) (r3 : Rv K F H (.ref c) (.list fs)) : IOk K (Izz K a b c) F H (zipD (zipD ds es) fs) := by
  cases r1 with
  | tup h1 h2 h3 =>
    rename_i xs
    cases r2 with
    | tup k1 k2 k3 =>
      rename_i ys
      cases r3 with
      | lst l1 l2 l3 =>
        rename_i zs
        refine ⟨fun i d M F' H' mk x hd => ?_, fun i d M F' H' v H2 mk x hd y => ?_, fun i M F' H' mk x hd => ?_, by rw [zipD_len, zipD_len, ← RvA.length h3]; omega⟩
        · obtain ⟨u, v, e1, e2, _⟩ := zipD_get hd
          obtain ⟨w1, w2, e3, e4, _⟩ := zipD_get e1
          obtain ⟨u1, q1, _⟩ := h3.get e3
          obtain ⟨u2, q2, _⟩ := k3.get e4
          obtain ⟨u3, q3, _⟩ := l3.get e2
          exact ⟨xs, ys, zs, _, _, _, SqT.mono mk x h1, SqT.mono mk x k1, (l1.mono mk x).sq, q1, q2, q3⟩
        · obtain ⟨T, U, p, q, t, rfl, hT, hU, hTU, rfl, y1, y2, y3⟩ := y
          obtain ⟨u, v, e1, e2, rfl⟩ := zipD_get hd
          obtain ⟨w1, w2, e3, e4, rfl⟩ := zipD_get e1
          obtain ⟨u1, q1, t1⟩ := (RvA.mono mk x h3).get e3
          obtain ⟨u2, q2, t2⟩ := (RvA.mono mk x k3).get e4
          obtain ⟨u3, q3, t3⟩ := (RvA.mono mk x l3).get e2
          have s1 := y1 xs (SqT.mono mk x h1)
          have s2 := y2 ys (SqT.mono mk x k1)
          have s3 := y3 zs (l1.mono mk x).sq
          rw [q1] at s1
          rw [q2] at s2
          rw [q3] at s3
          have z1 := Option.some.inj s1
          have z2 := Option.some.inj s2
          have z3 := Option.some.inj s3
          subst z1 z2 z3
          have hU' : upd H' T (.tup [u1, u2]) U = none := by rw [upd_ne (fun z => hTU z.symm)]; exact hU
          have sb : Sub H' (upd (upd H' T (.tup [u1, u2])) U (.tup [.ref T, u3])) := (Sub.new hT).trans (.new hU')
          refine ⟨sb, .tup (.of upd_same) (by show 2 ≤ SZ; decide) (.cons (.tup (.of ?_) (by show 2 ≤ SZ; decide) (.cons (t1.sub sb) (.cons (t2.sub sb) .nil))) (.cons (t3.sub sb) .nil))⟩
          rw [upd_ne hTU]
          exact upd_same
        · refine ⟨xs, ys, zs, SqT.mono mk x h1, SqT.mono mk x k1, (l1.mono mk x).sq, ?_⟩
          rw [RvA.length h3, RvA.length k3, RvA.length l3]
          rw [zipD_len, zipD_len] at hd
          omega
section
variable {X : Cx} {g : Ga} {a b c : Expr} {x y z : CE} {p p2 pos pos2 : Pos}
theorem tupO_v {o : O} {xs : List D} (h : tupO o = some xs) : o = .v (.tuple xs) := by
  cases o with
  | v d =>
    cases d with
    | tuple ys =>
      cases h
      rfl
    | _ => cases h
  | lst ys => cases h
  | dct ys => cases h
theorem az_nat {s t va vb vc : Nat} (la : va < s) (lb : vb < s) (lc : vc < t) (lz : s + 4 < t) (nc : ¬ vc = s + 4 ∧ ¬ vc = s + 2 ∧ ¬ vc = s + 3 ∧ ¬ vc = s ∧ ¬ vc = s + 1) :
    ([s + 4, s + 2, s + 3, s, s + 1, t + 3, t + 1, t + 2, t] : List Nat).Nodup ∧ va ∉ ([s + 4, s + 2, s + 3, s, s + 1, t + 3, t + 1, t + 2, t] : List Nat) ∧ vb ∉ ([s + 4, s + 2, s + 3, s, s + 1, t + 3, t + 1, t + 2, t] : List Nat) ∧ vc ∉ ([s + 4, s + 2, s + 3, s, s + 1, t + 3, t + 1, t + 2, t] : List Nat) := by
  refine ⟨?_, ?_, ?_, ?_⟩ <;> simp only [List.nodup_cons, List.mem_cons, List.not_mem_nil, or_false, not_or, List.nodup_nil, not_false_eq_true, and_true] <;> omega
theorem mem_nat {s t c : Nat} (h : c = s + 4 ∨ c = s + 2 ∨ c = s + 3 ∨ c = s ∨ c = s + 1 ∨ c = t + 3 ∨ c = t + 1 ∨ c = t + 2 ∨ c = t) (n : ¬ t ≤ c) : c = s + 4 ∨ c = s + 2 ∨ c = s + 3 ∨ c = s ∨ c = s + 1 := by omega
theorem az_of {s t va vb vc : Nat} (la : va < s) (lb : vb < s) (lc : vc < t) (lz : s + 4 < t) (nc : ¬ vc = s + 4 ∧ ¬ vc = s + 2 ∧ ¬ vc = s + 3 ∧ ¬ vc = s ∧ ¬ vc = s + 1) : Az (s + 4) (s + 2) (s + 3) s (s + 1) (t + 3) (t + 1) (t + 2) t va vb vc :=
  let ⟨h1, h2, h3, h4⟩ := az_nat la lb lc lz nc
  ⟨h1, h2, h3, h4⟩
theorem pi_zpz' {elts : List Expr} {kk : Nat} {tpos : Pos} (hc : X.calm = true) (hg : Gl X "zip") (hm : X.mg "zip" = none) (ha : PE X a (TDA X.K fun r => arB x (ev g x r) r)) (hb : PE X b (TDA X.K fun r => arB y (ev g y r) r)) (hcc : PE X c (TDA X.K fun r => arB z (ev g z r) r))
    (n1 : notStar a = true) (n2 : notStar b = true) (n3 : notStar c = true) : PI X (.Tuple elts kk tpos) (.Call (.Name "zip" p) [.Call (.Name "zip" p2) [a, b] [] pos2, c] [] pos) (TIm X.K (evit g (.zpz x y z))) := by
  refine ⟨fun pins s σ H R I ⟨F, r, ds, r', re, h, k⟩ => ?_⟩
  simp only [evit, Option.bind_eq_bind, Option.bind_eq_some_iff, Prod.exists] at h
  obtain ⟨x', r1, h1, y', r2, h2, o, h3, q, h4, xs, h5, ys, h6, z', r3, h7, t, h8, zs, h9, h10⟩ := h
  cases h10
  have hab := pa_a1 (xs := [y]) ha (pa_a1 (xs := []) hb pa_a0 n2) n1
  refine Call_ (ld_blt I hg hm PyProof.Rows.boot_zip (PyProof.Rows.callWith_type1 (PyProof.Rows.args_cons ?_ rfl) rfl (star_any (by rw [List.all_cons, n3]; rfl))))
  refine Call_ (ld_blt I hg hm PyProof.Rows.boot_zip (PyProof.Rows.callWith_type1 (thn (hab.run pos2 pins s σ H (fun vs H' => ∃ F', GoE X.K F H r σ F' H' r2 ∧ RAs X.K F' H' r2 σ H [x', y'] vs) I
    ⟨F, r, [x', y'], r2, re, by simp [evas, h1, h2], fun vs H1 F1 g1 ras => ⟨F1, g1, ras⟩⟩) fun us s1 ⟨vs, H1, I1, rvs, F1, g1, ras⟩ => ?_) (star_cons n1) (star_any (by rw [List.all_cons, n2]; rfl))))
  cases ras with
  | cons q1 q2 =>
    cases q2 with
    | cons q2 q3 =>
      cases q3
      have ro1 := RA.read g1.re q1 h3
      have ro2 := RA.read g1.re q2 h4
      rw [tupO_v h5] at ro1
      rw [tupO_v h6] at ro2
      have rv1 : Rv X.K F1 H1 _ (.tuple xs) := ro1
      have rv2 : Rv X.K F1 H1 _ (.tuple ys) := ro2
      obtain ⟨va, us1, rfl, hqa, _, _⟩ := Rv.tupE rv1
      obtain ⟨vb, us2, rfl, hqb, _, _⟩ := Rv.tupE rv2
      cases rvs with
      | cons e1 e2 =>
        cases e2 with
        | cons e2 e3 =>
          cases e3
          cases e1
          cases e2
          obtain ⟨its, v1, p1, _⟩ := I1.tuple hqa
          obtain ⟨its2, v2, p2', _⟩ := I1.tuple hqb
          obtain ⟨o1, ho1, _⟩ := id p1
          obtain ⟨o2, ho2, _⟩ := id p2'
          have la : @LT.lt Nat _ va s1.heap.objs.size := Heap.lt_size ho1
          have lb : @LT.lt Nat _ vb s1.heap.objs.size := Heap.lt_size ho2
          refine RZ.call_zipT (show s1.heap.IsTuple va its.toArray from p1) (show s1.heap.IsTuple vb its2.toArray from p2') fun h' hz hTI hTO hi1 hi2 hsz hk => ?_
          have I2 : Inv X pins σ H1 { s1 with heap := h' } := I1.kept (t' := s1.toks) hk
          have fresh : ∀ c, c ∈ [s1.heap.objs.size + 4, s1.heap.objs.size + 2, s1.heap.objs.size + 3, s1.heap.objs.size, s1.heap.objs.size + 1] → FpOk X pins H1 c := fun c hcm => by
            have hle : s1.heap.objs.size ≤ c := by
              simp only [List.mem_cons, List.not_mem_nil, or_false] at hcm
              rcases hcm with z | z | z | z | z <;> (rw [z]; first | exact Nat.le_add_right _ _ | exact Nat.le_refl _)
            exact I1.fpOk hle (I1.hok.fresh hle)
          have ob : ∀ c, c ∈ [s1.heap.objs.size + 4, s1.heap.objs.size + 2, s1.heap.objs.size + 3, s1.heap.objs.size, s1.heap.objs.size + 1] → ∃ o, h'.get? c = some o ∧ ∀ v, o.data ≠ .cell v := fun c hcm => by
            obtain ⟨oi1, ei1, _, di1⟩ := hi1
            obtain ⟨oi2, ei2, _, di2⟩ := hi2
            simp only [List.mem_cons, List.not_mem_nil, or_false] at hcm
            rcases hcm with z | z | z | z | z <;> subst z
            · exact ⟨_, hz, fun v q => nomatch q⟩
            · exact ⟨_, hTI, fun v q => nomatch q⟩
            · exact ⟨_, hTO, fun v q => nomatch q⟩
            · exact ⟨_, ei1, fun v q => by rw [di1] at q; cases q⟩
            · exact ⟨_, ei2, fun v q => by rw [di2] at q; cases q⟩
          have I2' := I2.pinned fresh ob
          refine PyProof.Rows.args_cons (thn (hcc.run _ _ σ H1 (fun v H' => ∃ F', GoE X.K F1 H1 r2 σ F' H' r3 ∧ RA X.K F' H' r3 σ H1 z' v) I2' ⟨F1, r2, z', r3, g1.re, h7, fun v H3 F3 g3 ra => ⟨F3, g3, ra⟩⟩) fun u3 s3 ⟨v3, H3, I3, rl, F3, g3, ra⟩ => PyProof.Rows.args_nil ?_) (star_cons n3)
          have keep : ∀ c ∈ [s1.heap.objs.size + 4, s1.heap.objs.size + 2, s1.heap.objs.size + 3, s1.heap.objs.size, s1.heap.objs.size + 1], ∀ o, h'.get? c = some o → s3.heap.get? c = some o ∧ H3 c = none := fun c hcm o e => by
            have := I3.pin (c, o) (List.mem_append_right _ (List.mem_append_right _ (mem_pinsAt hcm e)))
            exact ⟨this.1, this.2.1⟩
          have I4 : Inv X pins σ H3 s3 := I3.unpinned
          obtain ⟨F4, g4, rv3, ft⟩ := RA.frzX g1.re g3 ra h8
          rw [lstO_d h9] at rv3
          have rv3' := rv3
          cases rv3 with
          | lst l1 l2 l3 =>
            rename_i vc us3
            cases rl
            obtain ⟨its3, v3', p3, _⟩ := I4.list l1.sq
            have lz : @LT.lt Nat _ (s1.heap.objs.size + 4) s3.heap.objs.size := Heap.lt_size (keep _ (by simp) _ hz).1
            refine call_zipzip (keep _ (by simp) _ hz).1 p3.isList fun h'' gz gTI gTO gi hk2 => wpAny_pyIter_zip gz ?_
            have I5 : Inv X pins σ H3 { s3 with heap := h'' } := I4.kept (t' := s3.toks) hk2
            have lc : @LT.lt Nat _ vc s3.heap.objs.size := p3.lt
            have nc : vc ∉ [s1.heap.objs.size + 4, s1.heap.objs.size + 2, s1.heap.objs.size + 3, s1.heap.objs.size, s1.heap.objs.size + 1] := fun hcm => by
              obtain ⟨o, e, _⟩ := ob vc hcm
              have n := (keep vc hcm o e).2
              rcases l1 with ⟨_, q⟩ | ⟨_, q⟩ | ⟨o', its', n', q, _⟩
              · rw [n] at q
                cases q
              · rw [n] at q
                cases q
              · obtain ⟨_, _⟩ := fresh vc hcm
                have := I1.kIn vc o' q
                have h2 := Heap.lt_size this
                have h3 : @LT.lt Nat _ vc s1.heap.objs.size := h2
                simp only [List.mem_cons, List.not_mem_nil, or_false] at hcm
                have ir : ∀ n k : Nat, n + k < n → False := fun n k h => by omega
                rcases hcm with z | z | z | z | z <;> (rw [z] at h3; first | exact ir _ _ h3 | exact ir _ 0 h3)
            simp only [List.mem_cons, List.not_mem_nil, or_false, not_or] at nc
            have az : Az (s1.heap.objs.size + 4) (s1.heap.objs.size + 2) (s1.heap.objs.size + 3) s1.heap.objs.size (s1.heap.objs.size + 1) (s3.heap.objs.size + 3) (s3.heap.objs.size + 1) (s3.heap.objs.size + 2) s3.heap.objs.size va vb vc :=
              az_of la lb lc lz nc
            refine ⟨s3.heap.objs.size + 3, _, _, _, H3, rfl, I5, turn_zz az, ⟨⟨⟨.none, false, _, _, .inl rfl, hk2 _ _ (keep _ (by simp) _ hz).1, hk2 _ _ (keep _ (by simp) _ hTI).1, hk2 _ _ (keep _ (by simp) _ hTO).1⟩, ?_, ?_⟩, gz, gTI, ⟨_, _, gTO⟩, gi⟩, fun c hcm => ?_, k _ H3 F4 (g1.trans g4) (.zz ?_ ?_ rv3')⟩
            · exact hi1.at fun o q => hk2 _ _ (keep _ (by simp) _ q).1
            · exact hi2.at fun o q => hk2 _ _ (keep _ (by simp) _ q).1
            · by_cases hlt : s3.heap.objs.size ≤ c
              · exact I4.fpOk hlt (I4.hok.fresh hlt)
              · have hcm' : c ∈ [s1.heap.objs.size + 4, s1.heap.objs.size + 2, s1.heap.objs.size + 3, s1.heap.objs.size, s1.heap.objs.size + 1] := by
                  simp only [List.mem_cons, List.not_mem_nil, or_false] at hcm ⊢
                  exact mem_nat hcm hlt
                obtain ⟨o, e, _⟩ := ob c hcm'
                exact ⟨(keep c hcm' o e).2, (fresh c hcm').2⟩
            · exact ft.rv (rv1.mono g1.re.mok g3.ex)
            · exact ft.rv (rv2.mono g1.re.mok g3.ex)
end
end Mp
end

/-! ## MpLzip -/
section
set_option linter.all false
set_option maxRecDepth 100000
set_option maxHeartbeats 1000000
/-! Mp: list(zip(t, u)) of two tuples: the heap's side. -/
namespace Mp
open PySem PySem.Spec PyProof.Rows L2
theorem zip_no_len : typeLookup (.type "zip") "__len__" = pure none := by rw [typeLookup_type, builtinLookup_eq_fast]; kernel_rfl
theorem zip_no_hint : typeLookup (.type "zip") "__length_hint__" = pure none := by rw [typeLookup_type, builtinLookup_eq_fast]; kernel_rfl
/-- a zip of two tuples as it stands -/
structure Zst (z TI TO i1 i2 a b : Addr) (xs ys : Array Value) (k : Nat) (h : Heap) : Prop where
  zo : ∃ f0 f p q, F0 f0 ∧ ZO h z TI TO f0 f ∧ IsPair h TO p q
  ti : IsPair h TI (.ref i1) (.ref i2)
  t1 : h.IsTupleIter i1 a k
  t2 : h.IsTupleIter i2 b k
  l1 : h.IsTuple a xs
  l2 : h.IsTuple b ys
theorem Zst.keep {z TI TO i1 i2 a b : Addr} {xs ys : Array Value} {k : Nat} {h h' : Heap} (x : Zst z TI TO i1 i2 a b xs ys k h) (e : ∀ c ∈ [z, TI, TO, i1, i2, a, b], ∀ o, h.get? c = some o → h'.get? c = some o) : Zst z TI TO i1 i2 a b xs ys k h' := by
  obtain ⟨⟨f0, f, p, q, g0, hz, hTO⟩, hTI, h1, h2, l1, l2⟩ := x
  exact ⟨⟨f0, f, p, q, g0, e _ (by simp) _ hz, e _ (by simp) _ hTO⟩, e _ (by simp) _ hTI, h1.at fun o q => e _ (by simp) o q, h2.at fun o q => e _ (by simp) o q,
    let ⟨o, ho, r⟩ := l1; ⟨o, e _ (by simp) o ho, r⟩, let ⟨o, ho, r⟩ := l2; ⟨o, e _ (by simp) o ho, r⟩⟩
section
variable {P : Program} {w : World} {A : Around} {E : Value → Shared → Prop} {s : Shared} {z TI TO i1 i2 a b : Addr} {xs ys : Array Value} {k : Nat}
structure Apz (z TI TO i1 i2 a b : Addr) : Prop where
  nd : [z, TI, TO, i1, i2].Nodup
  na : a ∉ [z, TI, TO, i1, i2]
  nb : b ∉ [z, TI, TO, i1, i2]
theorem Apz.ap (D : Apz z TI TO i1 i2 a b) : Ap z TI TO [i1] [a] [i2] [b] := by
  obtain ⟨nd, na, nb⟩ := D
  simp only [List.nodup_cons, List.mem_cons, List.not_mem_nil, or_false, not_or, List.nodup_nil, and_true] at nd na nb
  refine ⟨?_, ?_, ?_, ?_, ?_⟩ <;> simp only [List.mem_cons, List.not_mem_nil, or_false, forall_eq] <;> grind
theorem zst_item {x y : Value} {Q : Option Value → Shared → Prop} (D : Apz z TI TO i1 i2 a b) (hh : A.handled = none) (st : Zst z TI TO i1 i2 a b xs ys k s.heap) (hx : xs[k]? = some x) (hy : ys[k]? = some y)
    (hQ : ∀ h', Zst z TI TO i1 i2 a b xs ys (k + 1) h' → IsPair h' s.heap.objs.size x y → h'.objs.size = s.heap.objs.size + 1 → (∀ c o, c ∉ [z, TO, i1, i2] → s.heap.get? c = some o → h'.get? c = some o) → Q (some (.ref s.heap.objs.size)) { s with heap := h' }) :
    wpAny (model P w) A (pyNext (.ref z)) Q E s := by
  obtain ⟨⟨f0, f, p, q, g0, hz, hTO⟩, hTI, h1, h2, l1, l2⟩ := st
  have nd := D.nd
  have na := D.na
  have nb := D.nb
  simp only [List.nodup_cons, List.mem_cons, List.not_mem_nil, or_false, not_or, List.nodup_nil, and_true] at nd na nb
  have ea : i1 ≠ a := fun q => na.2.2.2.1 q.symm
  have eb : i2 ≠ b := fun q => nb.2.2.2.2 q.symm
  have hT : s.TypeIs (.ref z) "zip" := ⟨_, hz, rfl⟩
  have k1 : k < xs.size := (Array.getElem?_eq_some_iff.mp hx).1
  have k2 : k < ys.size := (Array.getElem?_eq_some_iff.mp hy).1
  unfold pyNext
  refine wpAny_bind (wpAny_attempt (wpAny_callSpecial?_slot (name := Str.ofString "__next__") hT F.slot_zip_next
    (wpAny_call_entry F.slot_zip_next hT F.entry_zip_next (zipc_item (Src.tup (P := P) (w := w) ea xs) (Src.tup eb ys) D.ap hh hz g0 hTI hTO ⟨h1, l1⟩ ⟨h2, l2⟩ k1 k2
      fun h' vx vy g0' g e1 e2 e3 e4 e5 e6 e7 e8 e9 e10 e11 e12 => wpAny_pure ?_) (F.args_zip_next_1 _))))
  obtain ⟨p', q', e4⟩ := e4
  simp only [Nat.add_zero, Nat.zero_add] at e10 e11 e12 ⊢
  have w1 : vx = x := Option.some.inj ((show xs[k]? = some vx from e8).symm.trans hx)
  have w2 : vy = y := Option.some.inj ((show ys[k]? = some vy from e9).symm.trans hy)
  subst w1 w2
  refine hQ h' ⟨⟨g0', g, p', q', e1, e3, e4⟩, e5, e6.1, e7.1, e6.2, e7.2⟩ e10 e11 fun c o hc e => ?_
  simp only [List.mem_cons, List.not_mem_nil, or_false, not_or] at hc
  exact e12 c o hc.1 hc.2.1 (by simpa using hc.2.2.1) (by simpa using hc.2.2.2) e
theorem zst_done {Q : Option Value → Shared → Prop} (D : Apz z TI TO i1 i2 a b) (hh : A.handled = none) (st : Zst z TI TO i1 i2 a b xs ys k s.heap) (hl : xs.size ≤ k ∨ ys.size ≤ k)
    (hQ : ∀ h', (∀ c o, c ∉ [z, TO, i1, i2] → s.heap.get? c = some o → h'.get? c = some o) → Q none { s with heap := h' }) :
    wpAny (model P w) A (pyNext (.ref z)) Q E s := by
  obtain ⟨⟨f0, f, p, q, g0, hz, hTO⟩, hTI, h1, h2, l1, l2⟩ := st
  have nd := D.nd
  have na := D.na
  have nb := D.nb
  simp only [List.nodup_cons, List.mem_cons, List.not_mem_nil, or_false, not_or, List.nodup_nil, and_true] at nd na nb
  have ea : i1 ≠ a := fun q => na.2.2.2.1 q.symm
  have eb : i2 ≠ b := fun q => nb.2.2.2.2 q.symm
  have hT : s.TypeIs (.ref z) "zip" := ⟨_, hz, rfl⟩
  unfold pyNext
  refine wpAny_bind (wpAny_attempt (wpAny_callSpecial?_slot (name := Str.ofString "__next__") hT F.slot_zip_next
    (wpAny_call_entry F.slot_zip_next hT F.entry_zip_next (zipc_end (Src.tup (P := P) (w := w) ea xs) (Src.tup eb ys) D.ap hh hz g0 hTI hTO ⟨h1, l1⟩ ⟨h2, l2⟩ hl
      fun h' e hk he => ?_) (F.args_zip_next_1 _))))
  obtain ⟨o, ho, hc⟩ := he
  refine wpAny_bind (wpAny_isInstance (T := "StopIteration") (b := true) ⟨o, ho, hc⟩ isSubtype_stop ?_)
  refine wpAny_pure (hQ _ fun c o hc e => ?_)
  simp only [List.mem_cons, List.not_mem_nil, or_false, not_or] at hc
  exact hk c o hc.1 hc.2.1 (by simpa using hc.2.2.1) (by simpa using hc.2.2.2) e
end
/-- the pairs that were drawn, by their places -/
structure Zps (xs ys : Array Value) (lo : Addr) (h : Heap) (as : List Addr) : Prop where
  rise : as.Pairwise (· < ·)
  above : ∀ a ∈ as, @LT.lt Nat _ lo a
  pairs : ∀ (j : Nat) (a : Addr), as[j]? = some a → ∃ x y, xs[j]? = some x ∧ ys[j]? = some y ∧ IsPair h a x y
theorem Zps.there {xs ys : Array Value} {lo : Addr} {h : Heap} {as : List Addr} (g : Zps xs ys lo h as) {a : Addr} (ha : a ∈ as) : @LT.lt Nat _ a h.objs.size := by
  obtain ⟨j, hj⟩ := List.mem_iff_getElem?.mp ha
  obtain ⟨_, _, _, _, e⟩ := g.pairs j a hj
  exact Heap.lt_size e
section
variable {prog : Program} {w : World} {A : Around} {s : Shared} {R : Result → Shared → Prop} {z TI TO i1 i2 a b S : Addr} {xs ys : Array Value} {lo : Addr}
theorem lz_loop (D : Apz z TI TO i1 i2 a b) (hh : A.handled = none) (hS : S ∉ [z, TI, TO, i1, i2, a, b]) (hlo : ∀ c ∈ [z, TI, TO, i1, i2, S], @LE.le Nat _ c lo) (n : Nat) (hn1 : n ≤ xs.size) (hn2 : n ≤ ys.size) (hne : xs.size ≤ n ∨ ys.size ≤ n) (hn : n ≤ sizeLine) (res : Value) {h₁ : Heap}
    (hR : ∀ h' tk acc c as, (∀ b o, b ∉ [z, TO, i1, i2, S] → h₁.get? b = some o → h'.get? b = some o) → h'.get? S = some { cls := .type "list", dict := none, data := .seq acc c, slots := #[] } → as.length = n → Zps xs ys lo h' as →
      acc.toList = as.map Value.ref → R (.ok (.ret res)) { s with heap := h', toks := tk }) :
    ∀ (k i : Nat) (h : Heap) (tk c : Nat) (acc : Array Value) (as : List Addr), n - i = k → i ≤ n → Zst z TI TO i1 i2 a b xs ys i h → (∀ b o, b ∉ [z, TO, i1, i2, S] → h₁.get? b = some o → h.get? b = some o) →
      h.get? S = some { cls := .type "list", dict := none, data := .seq acc c, slots := #[] } → acc.toList = as.map Value.ref → as.length = i → Zps xs ys lo h as → @LT.lt Nat _ lo h.objs.size →
      codeAny (model prog w) A (.builtin "list.extend.loop" ⟨[.ref S, .ref z, res], []⟩) R { s with heap := h, toks := tk } := by
  simp only [List.mem_cons, List.not_mem_nil, or_false, not_or] at hS
  have out : ∀ c, @LT.lt Nat _ lo c → c ∉ [z, TO, i1, i2] ∧ c ≠ S := fun c hc => by
    have q := fun e he => Nat.lt_of_le_of_lt (hlo e he) hc
    refine ⟨fun m => ?_, fun e => ?_⟩
    · simp only [List.mem_cons, List.not_mem_nil, or_false] at m
      have hlt := q c (by
        simp only [List.mem_cons, List.not_mem_nil, or_false]
        rcases m with m | m | m | m <;> simp [m])
      exact Nat.lt_irrefl _ hlt
    · exact Nat.lt_irrefl _ (e ▸ q S (by simp))
  intro k
  induction k with
  | zero =>
    intro i h tk c acc as hk hi hst hkeep hS1 hacc hal hG hlt
    have hin : i = n := by omega
    refine codeAny_builtin PySem.F.entry_extend_loop ?_
    rw [Around.under_plainId PySem.F.plain_extend_loop _]
    show wpAny _ A.in1 (pyNext (.ref z) >>= _) _ _ _
    refine wpAny_bind (zst_done (s := { s with heap := h, toks := tk }) (A := A.in1) D hh hst (by omega) fun h' he => ?_)
    refine wpAny_pure (hR h' tk acc c as (fun b o h1 e => he b o (fun m => h1 (by simp only [List.mem_cons, List.not_mem_nil, or_false] at m ⊢; rcases m with m | m | m | m <;> simp [m])) (hkeep b o h1 e)) (he S _ (by simp [hS]) hS1) (by omega) ⟨hG.rise, hG.above, fun j a hj => ?_⟩ hacc)
    obtain ⟨x, y, e1, e2, e3⟩ := hG.pairs j a hj
    exact ⟨x, y, e1, e2, he a _ (out a (hG.above a (List.mem_of_getElem? hj))).1 e3⟩
  | succ k ih =>
    intro i h tk c acc as hk hi hst hkeep hS1 hacc hal hG hlt
    have hin : i < n := by omega
    obtain ⟨x, hx⟩ : ∃ x, xs[i]? = some x := ⟨xs[i], Array.getElem?_eq_getElem (by omega)⟩
    obtain ⟨y, hy⟩ : ∃ y, ys[i]? = some y := ⟨ys[i], Array.getElem?_eq_getElem (by omega)⟩
    have hsz : acc.size = i := by rw [← Array.length_toList, hacc, List.length_map, hal]
    refine codeAny_builtin PySem.F.entry_extend_loop ?_
    rw [Around.under_plainId PySem.F.plain_extend_loop _]
    show wpAny _ A.in1 (pyNext (.ref z) >>= _) _ _ _
    refine wpAny_bind (zst_item (s := { s with heap := h, toks := tk }) D hh hst hx hy fun h' hst' ht hz hkp => ?_)
    dsimp only at ht hz hkp ⊢
    have hS' := hkp S _ (by simp [hS]) hS1
    have up : ∀ b o, b ≠ S → h'.get? b = some o → (h'.update S (Obj.mapSeq (·.push (Value.ref h.objs.size)))).get? b = some o := fun b o hb e => (Heap.get?_update_other _ _ (Ne.symm hb)).trans e
    have hnew := out h.objs.size hlt
    show wpAny _ A.in1 (updateSeq S (·.push (Value.ref h.objs.size)) >>= _) _ _ _
    refine wpAny_bind ?_
    refine wpAny_updateSeq hS' rfl (wpAny_pure ⟨plainId_quiet PySem.F.plain_extend_loop _, ih (i + 1) _ tk _ (acc.push (Value.ref h.objs.size)) (as ++ [h.objs.size]) (by omega) hin
      (hst'.keep fun c hc o e => up c o (fun q => by subst q; simp only [List.mem_cons, List.not_mem_nil, or_false] at hc; rcases hc with m | m | m | m | m | m | m <;> simp_all) e)
      (fun b o h1 e => up b o (fun q => h1 (by simp [q])) (hkp b o (fun m => h1 (by simp only [List.mem_cons, List.not_mem_nil, or_false] at m ⊢; rcases m with m | m | m | m <;> simp [m])) (hkeep b o h1 e))) (Heap.get?_update_self _ hS' rfl) (by rw [Array.toList_push, hacc, List.map_append]; rfl) (by rw [List.length_append, hal]; rfl) ⟨?_, ?_, ?_⟩ ?_⟩) (by rw [hsz]; omega) (by show (acc.push (Value.ref h.objs.size)).size ≤ sizeLine + 1; rw [Array.size_push, hsz]; omega)
    · refine List.pairwise_append.mpr ⟨hG.rise, List.pairwise_singleton _ _, fun a ha b hb => ?_⟩
      rw [List.mem_singleton.mp hb]
      exact hG.there ha
    · intro a ha
      rcases List.mem_append.mp ha with ha | ha
      · exact hG.above a ha
      · rw [List.mem_singleton.mp ha]; exact hlt
    · intro j b hj
      rcases Nat.lt_trichotomy j as.length with h1 | h1 | h1
      · rw [List.getElem?_append_left h1] at hj
        obtain ⟨x', y', e1, e2, e3⟩ := hG.pairs j b hj
        have hb := out b (hG.above b (List.mem_of_getElem? hj))
        exact ⟨x', y', e1, e2, up b _ hb.2 (hkp b _ hb.1 e3)⟩
      · subst h1
        have hb : h.objs.size = b := by simpa using hj
        subst hb
        exact ⟨x, y, by rw [hal]; exact hx, by rw [hal]; exact hy, up _ _ hnew.2 ht⟩
      · have hnone : (as ++ [h.objs.size])[j]? = none := List.getElem?_eq_none (by rw [List.length_append, List.length_singleton]; omega)
        rw [hnone] at hj; cases hj
    · have e : (h'.update S (Obj.mapSeq (·.push (Value.ref h.objs.size)))).get? h.objs.size = _ := up _ _ hnew.2 ht
      exact Nat.lt_trans hlt (Heap.lt_size e)
theorem lz_extend (D : Apz z TI TO i1 i2 a b) (hh : A.handled = none) (hS : S ∉ [z, TI, TO, i1, i2, a, b]) (hlo : ∀ c ∈ [z, TI, TO, i1, i2], @LE.le Nat _ c S) (n : Nat) (hn1 : n ≤ xs.size) (hn2 : n ≤ ys.size) (hne : xs.size ≤ n ∨ ys.size ≤ n) (hn : n ≤ sizeLine) (res : Value) (c₀ : Nat)
    (hz : IsZip s.heap z TI TO .none) (st : Zst z TI TO i1 i2 a b xs ys 0 s.heap) (hS1 : s.heap.get? S = some { cls := .type "list", data := .seq #[] c₀ })
    (hR : ∀ h' tk acc c as, (∀ b o, b ∉ [z, TO, i1, i2, S] → s.heap.get? b = some o → h'.get? b = some o) → h'.get? S = some { cls := .type "list", dict := none, data := .seq acc c, slots := #[] } → as.length = n → Zps xs ys S h' as →
      acc.toList = as.map Value.ref → R (.ok (.ret res)) { s with heap := h', toks := tk }) :
    wpAny (model prog w) A.in1 (Builtin.List.listExtendWith (.ref S) (.ref z) res)
      (fun fin s' => match fin with | .done f => R (.ok f) s' | .again c' => c'.quiet = true ∧ codeAny (model prog w) A c' R s') (fun e s' => R (.error e) s') s := by
  have hSz : S ≠ z := fun e => hS (by simp [e])
  have hT : s.TypeIs (.ref z) "zip" := let ⟨_, _, _, _, _, h, _⟩ := st.zo; ⟨_, h, rfl⟩
  unfold Builtin.List.listExtendWith
  refine wpAny_bind (wpAny_typeOf hT ?_)
  have h1 : Builtin.List.listSameRef (.ref S) (.ref z) = false := by simp [Builtin.List.listSameRef, hSz]
  have h2 : (Value.type "zip" == Value.type "list") = false := by decide
  have h3 : (Value.type "zip" == Value.type "tuple") = false := by decide
  simp only [h1, h2, h3, Bool.or_false, Bool.false_eq_true, if_false]
  refine wpAny_bind (wpAny_pyIter_zip hz ?_)
  refine wpAny_bind (wpAny_holding ?_)
  unfold Builtin.List.listLengthHint
  refine wpAny_bind (wpAny_specialOf hT zip_no_len ?_)
  show wpAny _ A.in1 (specialOf (Value.ref z) (Str.ofString "__length_hint__") >>= _) _ _ _
  refine wpAny_bind (wpAny_specialOf hT zip_no_hint ?_)
  refine wpAny_pure ?_
  show wpAny _ A.in1 (rule "list.extend.makes-room" >>= fun _ => Builtin.List.listTouch (.ref S) >>= fun _ =>
    again (.builtin "list.extend.loop" ⟨[.ref S, .ref z, res], []⟩)) _ _ _
  refine wpAny_bind (wpAny_rule ?_)
  refine wpAny_bind ?_
  show wpAny _ A.in1 (updateSeq S (·.push .none) >>= fun _ => updateSeq S (·.pop)) _ _ _
  refine wpAny_bind (wpAny_updateSeq hS1 rfl ?_)
  have hS₂ := Heap.get?_update_self (Obj.mapSeq (·.push Value.none)) hS1 rfl
  refine wpAny_updateSeq (hz := by seq_fits) hS₂ rfl ?_
  have hS₃ := Heap.get?_update_self (Obj.mapSeq (·.pop)) hS₂ rfl
  have oth : ∀ b o, b ≠ S → s.heap.get? b = some o → ((s.heap.update S (Obj.mapSeq (·.push Value.none))).update S (Obj.mapSeq (·.pop))).get? b = some o :=
    fun b o hb e => (Heap.get?_update_other _ _ (Ne.symm hb)).trans ((Heap.get?_update_other _ _ (Ne.symm hb)).trans e)
  refine wpAny_pure ⟨plainId_quiet PySem.F.plain_extend_loop _, lz_loop (s := s) (h₁ := s.heap) (lo := S) D hh hS (fun c hc => ?_) n hn1 hn2 hne hn res hR n 0 _ s.toks _ #[] [] (Nat.sub_zero _) (Nat.zero_le _)
    (st.keep fun c hc o e => oth c o (fun q => hS (q ▸ hc)) e) (fun b o hb e => oth b o (fun q => hb (by simp [q])) e) hS₃ rfl rfl ⟨List.Pairwise.nil, (fun _ ha => nomatch ha), (fun j a hj => by simp at hj)⟩ (Heap.lt_size hS₃)⟩
  simp only [List.mem_cons, List.not_mem_nil, or_false] at hc
  rcases hc with q | q | q | q | q | q
  · exact hlo c (by simp [q])
  · exact hlo c (by simp [q])
  · exact hlo c (by simp [q])
  · exact hlo c (by simp [q])
  · exact hlo c (by simp [q])
  · exact q ▸ Nat.le_refl _
theorem lz_init (D : Apz z TI TO i1 i2 a b) (hh : A.handled = none) (hS : S ∉ [z, TI, TO, i1, i2, a, b]) (hlo : ∀ c ∈ [z, TI, TO, i1, i2], @LE.le Nat _ c S) (n : Nat) (hn1 : n ≤ xs.size) (hn2 : n ≤ ys.size) (hne : xs.size ≤ n ∨ ys.size ≤ n) (hn : n ≤ sizeLine)
    (hz : IsZip s.heap z TI TO .none) (st : Zst z TI TO i1 i2 a b xs ys 0 s.heap) (hS1 : s.heap.get? S = some { cls := .type "list", data := .seq #[] })
    (hR : ∀ h' tk acc c as, (∀ b o, b ∉ [z, TO, i1, i2, S] → s.heap.get? b = some o → h'.get? b = some o) → h'.get? S = some { cls := .type "list", dict := none, data := .seq acc c, slots := #[] } → as.length = n → Zps xs ys S h' as →
      acc.toList = as.map Value.ref → R (.ok (.ret .none)) { s with heap := h', toks := tk }) :
    wpAny (model prog w) A.in1 (Builtin.«list.__init__» ⟨[.ref S, .ref z], []⟩)
      (fun fin s' => match fin with | .done f => R (.ok f) s' | .again c' => c'.quiet = true ∧ codeAny (model prog w) A c' R s') (fun e s' => R (.error e) s') s := by
  show wpAny _ _ (do let old ← Builtin.List.listItems (.ref S); Builtin.List.listUpdate (.ref S) (fun _ => #[]); letGo old.toList.reverse; Builtin.List.listExtendWith (.ref S) (.ref z) .none) _ _ s
  refine wpAny_bind ?_
  unfold Builtin.List.listItems
  refine wpAny_bind (wpAny_seqItems hS1 rfl (wpAny_pure ?_))
  show wpAny _ _ (updateSeq S (fun _ => #[]) >>= fun _ => letGo (#[] : Array Value).toList.reverse >>= fun _ => Builtin.List.listExtendWith (.ref S) (.ref z) .none) _ _ s
  refine wpAny_bind (wpAny_updateSeq hS1 rfl ?_)
  have hS₂ := Heap.get?_update_self (Obj.mapSeq (fun _ => (#[] : Array Value))) hS1 rfl
  have oth : ∀ b o, b ≠ S → s.heap.get? b = some o → (s.heap.update S (Obj.mapSeq (fun _ => (#[] : Array Value)))).get? b = some o :=
    fun b o hb e => (Heap.get?_update_other _ _ (Ne.symm hb)).trans e
  refine wpAny_bind (wpAny_letGo ?_)
  refine lz_extend D hh hS hlo n hn1 hn2 hne hn .none _ (oth z _ (fun e => hS (by simp [e])) hz) (st.keep fun c hc o e => oth c o (fun q => hS (q ▸ hc)) e) hS₂ fun h' tk acc c as hk hS' hl hG hacc => ?_
  exact hR h' tk acc c as (fun b o hb e => hk b o hb (oth b o (fun q => hb (by simp [q])) e)) hS' hl hG hacc
theorem lz_call {E : Value → Shared → Prop} {Q : Value → Shared → Prop} (D : Apz z TI TO i1 i2 a b) (hh : A.handled = none) (n : Nat) (hn1 : n ≤ xs.size) (hn2 : n ≤ ys.size) (hne : xs.size ≤ n ∨ ys.size ≤ n) (hn : n ≤ sizeLine)
    (hz : IsZip s.heap z TI TO .none) (st : Zst z TI TO i1 i2 a b xs ys 0 s.heap)
    (hQ : ∀ h' tk acc c as, (∀ b o, b ∉ [z, TO, i1, i2] → s.heap.get? b = some o → h'.get? b = some o) → h'.get? s.heap.objs.size = some { cls := .type "list", dict := none, data := .seq acc c, slots := #[] } → as.length = n → Zps xs ys s.heap.objs.size h' as →
      acc.toList = as.map Value.ref → Q (.ref s.heap.objs.size) { s with heap := h', toks := tk }) :
    wpAny (model prog w) A (call (.type "list") [.ref z]) Q E s := by
  refine callType_codes (Q₁ := fun obj s₁ => obj = .ref s.heap.objs.size ∧ s₁ = { s with heap := s.heap.push { cls := .type "list", data := .seq #[] } }) PySem.F.called_list (PySem.F.typeCall_list_1 _) PySem.F.entry_list_init
    (code_list_new _ ⟨rfl, rfl⟩) fun obj s₁ h₁ => ?_
  obtain ⟨rfl, rfl⟩ := h₁
  have hS : (s.heap.push { cls := .type "list", data := .seq #[] }).get? s.heap.objs.size = some { cls := .type "list", data := .seq #[] } := Heap.get?_push_size _ rfl
  have lt : ∀ c ∈ [z, TI, TO, i1, i2, a, b], @LT.lt Nat _ c s.heap.objs.size := fun c hc => by
    obtain ⟨⟨f0, f, p, q, g0, k1, k2⟩, k3, ⟨o4, k4, _⟩, ⟨o5, k5, _⟩, ⟨o6, k6, _⟩, ⟨o7, k7, _⟩⟩ := st
    simp only [List.mem_cons, List.not_mem_nil, or_false] at hc
    rcases hc with rfl | rfl | rfl | rfl | rfl | rfl | rfl
    · exact Heap.lt_size k1
    · exact Heap.lt_size k3
    · exact Heap.lt_size k2
    · exact Heap.lt_size k4
    · exact Heap.lt_size k5
    · exact Heap.lt_size k6
    · exact Heap.lt_size k7
  refine ⟨⟨_, hS, rfl⟩, PySem.F.args_list_init_2 _ _, lz_init (A := A.in1) D hh (fun m => Nat.lt_irrefl _ (lt _ m)) (fun c hc => Nat.le_of_lt (lt c (by simp only [List.mem_cons, List.not_mem_nil, or_false] at hc ⊢; rcases hc with q | q | q | q | q <;> simp [q]))) n hn1 hn2 hne hn (Heap.get?_push_of_some _ hz) (st.keep fun c hc o e => Heap.get?_push_of_some _ e) hS fun h' tk acc c as hk hS' hl hG hacc => ?_⟩
  exact ⟨rfl, hQ h' tk acc c as (fun b o hb e => hk b o (fun m => by
    simp only [List.mem_cons, List.not_mem_nil, or_false, not_or] at hb m
    rcases m with m | m | m | m | m
    · exact hb.1 m
    · exact hb.2.1 m
    · exact hb.2.2.1 m
    · exact hb.2.2.2 m
    · exact Nat.lt_irrefl _ (m ▸ Heap.lt_size e : @LT.lt Nat _ s.heap.objs.size s.heap.objs.size)) (Heap.get?_push_of_some _ e)) hS' hl hG hacc⟩
end
end Mp
end

/-! ## MpLzip2 -/
section
set_option linter.all false
set_option maxRecDepth 100000
set_option maxHeartbeats 1000000
/-! Mp: list(zip(t, u)) of two tuples. -/
namespace Mp
open PySem PySem.Spec PyProof.Rows L2
section
variable {fs ex : List Addr} {H H1 : Hp} {h h' : Heap} {P : Program} {w : World}
/-- one more object tracked, new to the first heap -/
theorem Un.more {a : Addr} {o : HO} (u : Un fs ex H H1 h h') (hp : h.get? a = none) (hn : H1 a = none) : Un fs ex H (upd H1 a o) h h' where
  keep := u.keep
  slot := u.slot
  free := fun b ob q n hx => by rw [upd_ne (fun z => by rw [z, hp] at q; cases q)]; exact u.free b ob q n hx
  there := u.there
  tups := fun b xs q => by
    have e := u.tups b xs q
    rw [upd_ne (ne_of_none e hn)]
    exact e
  frzs := fun b ob xs q => by
    have e := u.frzs b ob xs q
    rw [upd_ne (ne_of_none e hn)]
    exact e
  tbls := fun b ps q => by
    obtain ⟨m, e⟩ := u.tbls b ps q
    exact ⟨m, by rw [upd_ne (ne_of_none e hn)]; exact e⟩
/-- pairs are laid -/
theorem lay_pairs : ∀ (as : List Addr) (xs ys : List V) {H1 : Hp}, as.Nodup → (∀ a ∈ as, h.get? a = none ∧ H1 a = none) →
    (∀ (j : Nat) (a : Addr), as[j]? = some a → ∃ x y u v, xs[j]? = some x ∧ ys[j]? = some y ∧ RelV x u ∧ RelV y v ∧ IsPair h' a u v) → Un fs ex H H1 h h' → HOk P w H1 h' →
    ∃ H2, Un fs ex H H2 h h' ∧ HOk P w H2 h' ∧ Sub H1 H2 ∧ (∀ a, a ∉ as → H2 a = H1 a) ∧ ∀ (j : Nat) (a : Addr), as[j]? = some a → ∃ x y, xs[j]? = some x ∧ ys[j]? = some y ∧ H2 a = some (.tup [x, y])
  | [], xs, ys, H1, _, _, _, u, ok => ⟨H1, u, ok, .refl, fun _ _ => rfl, fun j a e => by simp at e⟩
  | b :: bs, xs, ys, H1, nd, fr, pr, u, ok => by
    rw [List.nodup_cons] at nd
    obtain ⟨x, y, ux, vy, ex', ey, rx, ry, hp⟩ := pr 0 b rfl
    obtain ⟨f1, f2⟩ := fr b List.mem_cons_self
    have new : ObjOk P w (upd H1 b (.tup [x, y])) h' b (.tup [x, y]) := ⟨by show 2 ≤ sizeLine; decide, [ux, vy], .cons rx (.cons ry .nil), ⟨_, hp, rfl, _, rfl⟩⟩
    obtain ⟨H2, u2, ok2, s2, n2, k2⟩ := lay_pairs bs (xs.drop 1) (ys.drop 1) (H1 := upd H1 b (.tup [x, y])) nd.2 (fun a ha => by
      have ne : a ≠ b := fun z => nd.1 (z ▸ ha)
      obtain ⟨g1, g2⟩ := fr a (List.mem_cons_of_mem _ ha)
      exact ⟨g1, by rw [upd_ne ne]; exact g2⟩) (fun j a e => by
      obtain ⟨x', y', u', v', q1, q2, q⟩ := pr (j + 1) a (by rw [List.getElem?_cons_succ]; exact e)
      exact ⟨x', y', u', v', by rw [List.getElem?_drop, Nat.add_comm]; exact q1, by rw [List.getElem?_drop, Nat.add_comm]; exact q2, q⟩)
      (Un.more u f1 f2) (HOk.laidN ok (fun _ _ q => q) f2 new)
    refine ⟨H2, u2, ok2, (Sub.new f2).trans s2, fun a ha => ?_, fun j a e => ?_⟩
    · rw [n2 a fun m => ha (List.mem_cons_of_mem _ m), upd_ne fun z => ha (by rw [z]; exact List.mem_cons_self)]
    · cases j with
      | zero =>
        cases e
        exact ⟨x, y, ex', ey, s2 _ _ upd_same⟩
      | succ j =>
        rw [List.getElem?_cons_succ] at e
        obtain ⟨x', y', q1, q2, q3⟩ := k2 j a e
        rw [List.getElem?_drop, Nat.add_comm] at q1 q2
        exact ⟨x', y', q1, q2, q3⟩
end
theorem rva_zip {K : PySem.W.Frag} {F : Addr → Prop} {H : Hp} : ∀ (as : List Addr) {xs ys : List V} {ds es : List D}, as.length = min xs.length ys.length →
    (∀ (j : Nat) (a : Addr), as[j]? = some a → ∃ x y, xs[j]? = some x ∧ ys[j]? = some y ∧ H a = some (.tup [x, y])) → RvA K F H xs ds → RvA K F H ys es → RvA K F H (as.map V.ref) (zipD ds es)
  | [], _, _, _, _, hl, _, .nil, _ => .nil
  | [], _, _, _, _, hl, _, .cons _ _, .nil => .nil
  | [], _, _, _, _, hl, _, .cons _ _, .cons _ _ => by simp at hl
  | _ :: _, _, _, _, _, hl, _, .nil, _ => by simp at hl
  | _ :: _, _, _, _, _, hl, _, .cons _ _, .nil => by simp at hl
  | a :: as, _, _, _, _, hl, hk, .cons r1 t1, .cons r2 t2 => by
    obtain ⟨x, y, e1, e2, e3⟩ := hk 0 a rfl
    cases e1
    cases e2
    refine .cons (.tup (.inl (.inl e3)) (by show 2 ≤ SZ; decide) (.cons r1 (.cons r2 .nil))) (rva_zip as (by simp only [List.length_cons] at hl; omega) (fun j b e => ?_) t1 t2)
    exact hk (j + 1) b (by rw [List.getElem?_cons_succ]; exact e)
theorem vals_back {xs : List V} {its : List Value} (r : Vals xs its) {j : Nat} {u : Value} (e : its[j]? = some u) : ∃ x, xs[j]? = some x ∧ RelV x u := by
  have l := r.length
  have h := (List.getElem?_eq_some_iff.mp e).1
  have hx : j < xs.length := by omega
  obtain ⟨u', e', q⟩ := r.get (List.getElem?_eq_getElem hx)
  rw [e] at e'
  cases e'
  exact ⟨_, List.getElem?_eq_getElem hx, q⟩
theorem vals_refs : ∀ as : List Addr, Vals (as.map V.ref) (as.map Value.ref)
  | [] => .nil
  | _ :: as => .cons rfl (vals_refs as)
theorem az5 {s va vb : Nat} (la : va < s) (lb : vb < s) : Apz (s + 4) (s + 2) (s + 3) s (s + 1) va vb := by
  refine ⟨?_, ?_, ?_⟩ <;> simp only [List.nodup_cons, List.mem_cons, List.not_mem_nil, or_false, not_or, List.nodup_nil, not_false_eq_true, and_true] <;> (unfold Addr at *; omega)
section
variable {X : Cx} {g : Ga} {a b : Expr} {x y : CE} {p p2 pos pos2 : Pos}
theorem pe_listzip (hc : X.calm = true) (hg : Gl X "list") (hm : X.mg "list" = none) (hg2 : Gl X "zip") (hm2 : X.mg "zip" = none) (ha : PE X a (TDA X.K fun r => arB x (ev g x r) r)) (hb : PE X b (TDA X.K fun r => arB y (ev g y r) r))
    (n1 : notStar a = true) (n2 : notStar b = true) : PE X (.Call (.Name "list" p) [.Call (.Name "zip" p2) [a, b] [] pos2] [] pos) (TD X.K (ev g (.blt .listzip [x, y]))) := by
  refine ⟨fun pins s σ H Q I ⟨F, r, o, r', re, h, k⟩ => ?_⟩
  simp only [ev, Option.bind_eq_bind, Option.bind_eq_some_iff, Prod.exists, Option.some.injEq, Prod.mk.injEq] at h
  obtain ⟨as, r2, h1, os, h4, q, h5, rfl, rfl⟩ := h
  have hab := pa_a1 (xs := [y]) ha (pa_a1 (xs := []) hb pa_a0 n2) n1
  refine Call_ (ld_blt (u := .type "list") I hg hm PyProof.Rows.boot_list (PyProof.Rows.callWith_type1 (PyProof.Rows.args_cons ?_ rfl) rfl rfl))
  refine Call_ (ld_blt I hg2 hm2 PyProof.Rows.boot_zip (PyProof.Rows.callWith_type1 (thn (hab.run pos2 pins s σ H (fun vs H' => ∃ F', GoE X.K F H r σ F' H' r2 ∧ RAs X.K F' H' r2 σ H as vs) I
    ⟨F, r, as, r2, re, h1, fun vs H1 F1 g1 ras => ⟨F1, g1, ras⟩⟩) fun us s1 ⟨vs, H1, I1, rvs, F1, g1, ras⟩ => ?_) (star_cons n1) (star_any (by rw [List.all_cons, n2]; rfl))))
  have ros := ras.read g1.re h4
  have hblo : ∃ o1 o2 ds es, os = [o1, o2] ∧ tupO o1 = some ds ∧ tupO o2 = some es ∧ q = .lst (zipD ds es) := by
    have h5 : two (fun o p => (tupO o).bind fun xs => (tupO p).map fun ys => .lst (zipD xs ys)) os = some q := h5
    match os, h5 with
    | [o1, o2], h5 =>
      simp only [two, Option.bind_eq_some_iff, Option.map_eq_some_iff] at h5
      obtain ⟨ds, e1, es, e2, e3⟩ := h5
      exact ⟨o1, o2, ds, es, rfl, e1, e2, e3.symm⟩
  obtain ⟨o1, o2, ds, es, rfl, h6, h7, rfl⟩ := hblo
  obtain ⟨v1, v2, rfl, ro1, ro2⟩ := ROs.two ros
  rw [tupO_v h6] at ro1
  rw [tupO_v h7] at ro2
  have rv1 : Rv X.K F1 H1 _ (.tuple ds) := ro1
  have rv2 : Rv X.K F1 H1 _ (.tuple es) := ro2
  obtain ⟨va, xs, rfl, hqa, lx, ra1⟩ := Rv.tupE rv1
  obtain ⟨vb, ys, rfl, hqb, ly, ra2⟩ := Rv.tupE rv2
  cases rvs with
  | cons e1 e2 =>
    cases e2 with
    | cons e2 e3 =>
      cases e3
      cases e1
      cases e2
      obtain ⟨its, w1, p1, _⟩ := I1.tuple hqa
      obtain ⟨its2, w2, p2', _⟩ := I1.tuple hqb
      obtain ⟨ob1, ho1, _⟩ := id p1
      obtain ⟨ob2, ho2, _⟩ := id p2'
      have la : @LT.lt Nat _ va s1.heap.objs.size := Heap.lt_size ho1
      have lb : @LT.lt Nat _ vb s1.heap.objs.size := Heap.lt_size ho2
      have z1 := w1.length
      have z2 := w2.length
      refine RZ.call_zipT (show s1.heap.IsTuple va its.toArray from p1) (show s1.heap.IsTuple vb its2.toArray from p2') fun h' hz hTI hTO hi1 hi2 hsz hk => ?_
      refine PyProof.Rows.args_nil ?_
      have ln : min xs.length ys.length ≤ sizeLine := by rw [← SZ_eq]; omega
      have st : Zst (s1.heap.objs.size + 4 : Nat) (s1.heap.objs.size + 2 : Nat) (s1.heap.objs.size + 3 : Nat) s1.heap.objs.size (s1.heap.objs.size + 1 : Nat) va vb its.toArray its2.toArray 0 h' :=
        ⟨⟨.none, false, .none, .none, .inl rfl, hz, hTO⟩, hTI, hi1, hi2, let ⟨o, ho, r⟩ := p1; ⟨o, hk _ _ ho, r⟩, let ⟨o, ho, r⟩ := p2'; ⟨o, hk _ _ ho, r⟩⟩
      refine lz_call (s := { s1 with heap := h' }) (az5 la lb) (by exact I1.ok.hd hc) (min xs.length ys.length) (by rw [List.size_toArray]; omega) (by rw [List.size_toArray]; omega) (by rw [List.size_toArray, List.size_toArray]; omega) ln hz st
        fun h'' tk acc c as hk2 hS hl hG hacc => ?_
      dsimp only at hk2 hS hG ⊢
      have kp : ∀ c o, s1.heap.get? c = some o → h''.get? c = some o := fun c o e => hk2 c o (fun m => by
        have hlt : @LT.lt Nat _ c s1.heap.objs.size := Heap.lt_size e
        simp only [List.mem_cons, List.not_mem_nil, or_false] at m
        unfold Addr at *
        omega) (hk c o e)
      have ab : ∀ d ∈ as, @LT.lt Nat _ s1.heap.objs.size d := fun d hd => by
        have := hG.above d hd
        rw [hsz] at this
        exact Nat.lt_of_le_of_lt (Nat.le_add_right _ 5) this
      have nn : ∀ d : Addr, @LE.le Nat _ s1.heap.objs.size d → s1.heap.get? d = none ∧ H1 d = none := fun d hd => ⟨by
        cases e : s1.heap.get? d with
        | none => rfl
        | some o => exact absurd (Nat.lt_of_lt_of_le (Heap.lt_size e) hd) (Nat.lt_irrefl _), I1.hok.fresh hd⟩
      obtain ⟨H2, u2, ok2, s2, n2, k2⟩ := lay_pairs (fs := X.fs) (ex := []) (H := H1) (h := s1.heap) (h' := h'') (P := X.prog) (w := X.w) as xs ys (show as.Nodup from hG.rise.imp fun {a b} (h : @LT.lt Nat _ a b) => Nat.ne_of_lt h) (fun d hd => nn d (Nat.le_of_lt (ab d hd))) (fun j d e => by
        obtain ⟨u, v, q1, q2, q3⟩ := hG.pairs j d e
        rw [List.getElem?_toArray] at q1 q2
        obtain ⟨x', e1, r1⟩ := vals_back w1 q1
        obtain ⟨y', e2, r2⟩ := vals_back w2 q2
        exact ⟨x', y', u, v, e1, e2, r1, r2, q3⟩) (Un.kept kp) (I1.hok.kept kp)
      have hS2 : H2 h'.objs.size = none := by
        rw [n2 _ fun m => Nat.lt_irrefl _ (hG.above _ m)]
        exact (nn _ (by rw [hsz]; exact Nat.le_add_right _ _)).2
      have hlen : (as.map V.ref).length ≤ sizeLine := by rw [List.length_map, hl]; exact ln
      have new : ObjOk X.prog X.w (upd H2 h'.objs.size (.lst (as.map V.ref))) h'' h'.objs.size (.lst (as.map V.ref)) := ⟨hlen, acc.toList, c, by rw [hacc]; exact vals_refs as, hS⟩
      have J : Inv X pins σ (upd H2 h'.objs.size (.lst (as.map V.ref))) { s1 with heap := h'', toks := tk } :=
        I1.un (Un.more u2 (nn _ (by rw [hsz]; exact Nat.le_add_right _ _)).1 hS2) (HOk.laidN ok2 (fun _ _ q => q) hS2 new)
      have sb : Sub H1 (upd H2 h'.objs.size (.lst (as.map V.ref))) := s2.trans (.new hS2)
      have dm : Dom F1 H1 := g1.re.dom
      have g2 := g1.trans (.pure g1.re sb)
      have fresh1 : H1 h'.objs.size = none := (nn _ (by rw [hsz]; exact Nat.le_add_right _ _)).2
      refine ⟨.ref h'.objs.size, _, J, rfl, k _ _ F1 g2 (RR.of re g2 ⟨_, _, rfl, fun f => dm _ f fresh1, upd_same, by rw [SZ_eq]; exact hlen, ?_⟩ fun _ d z => ?_)⟩
      · exact rva_zip as hl (fun j d e => by
          obtain ⟨x', y', q1, q2, q3⟩ := k2 j d e
          exact ⟨x', y', q1, q2, Sub.new hS2 _ _ q3⟩) (ra1.mono Mok.none sb.ex) (ra2.mono Mok.none sb.ex)
      · cases z
        exact g1.ex.dom _ fresh1
end
end Mp
end

/-! ## MpRev -/
section
set_option linter.all false
set_option maxRecDepth 100000
set_option maxHeartbeats 1000000
/-! Mp: t[::-1] of a tuple, xs[::-1] of a list. -/
namespace Mp
open PySem PySem.Spec PyProof.Rows L2 HT
section
variable {prog : Program} {w : World} {A : Around} {E : Value → Shared → Prop} {s : Shared}
theorem adj_rev (n : Nat) : Builtin.Slice.sliceAdjust none none (-1) (n : Int) = ((n : Int) - 1, -1) := rfl
theorem places_rev (n : Nat) : Builtin.Slice.slicePlaces ((n : Int) - 1) (-1) (-1) = n := by
  unfold Builtin.Slice.slicePlaces
  rw [if_neg (by decide), show (- -1 : Int) = 1 by decide, Int.ediv_one]
  split <;> omega
theorem sliceApplied_rev {sl : Addr} {vl vu vs : Value} {n : Nat} {Q : Int × Int × Nat → Shared → Prop} (hs : s.heap.IsSliceOf sl vl vu vs) (pl : IsPart vl none) (pu : IsPart vu none) (ps : IsPart vs (some (-1)))
    (h : Q ((n : Int) - 1, -1, n) s) : wpAny (model prog w) A (Builtin.Slice.sliceApplied (.ref sl) (pure (n : Int))) Q E s := by
  obtain ⟨os, hos, hcs, hds⟩ := id hs
  unfold Builtin.Slice.sliceApplied Builtin.Slice.sliceFields
  refine wpAny_bind (wpAny_bind (wpAny_field hos hds (x := vl) rfl (wpAny_bind (wpAny_field hos hds (x := vu) rfl (wpAny_bind (wpAny_field hos hds (x := vs) rfl (wpAny_pure ?_)))))))
  refine wpAny_bind (slicePart_ ps ?_)
  show wpAny _ _ (if ((-1 : Int) == 0) = true then _ else _) _ _ s
  rw [if_neg (by decide)]
  refine wpAny_bind (slicePart_ pl (wpAny_bind (slicePart_ pu (wpAny_bind (wpAny_pure ?_)))))
  show wpAny _ _ (match Builtin.Slice.sliceAdjust none none (-1) (n : Int) with | (lo, hi) => pure (lo, (-1 : Int), Builtin.Slice.slicePlaces lo hi (-1))) _ _ s
  rw [adj_rev n]
  show wpAny _ _ (pure ((n : Int) - 1, (-1 : Int), Builtin.Slice.slicePlaces ((n : Int) - 1) (-1) (-1))) _ _ s
  rw [places_rev]
  exact wpAny_pure h
theorem pick_rev (xs : Array Value) : ((List.range xs.size).filterMap fun (k : Nat) => xs[((xs.size : Int) - 1 + (k : Int) * -1).toNat]?).toArray = xs.toList.reverse.toArray := by
  congr 1
  apply List.ext_getElem?
  intro i
  have key : ∀ (m : Nat), m ≤ xs.size → ((List.range m).filterMap fun (k : Nat) => xs[((xs.size : Int) - 1 + (k : Int) * -1).toNat]?) = xs.toList.reverse.take m := by
    intro m
    induction m with
    | zero => intro _; simp
    | succ m ih =>
      intro hm
      have e : ((xs.size : Int) - 1 + (m : Int) * -1).toNat = xs.size - 1 - m := by omega
      have hx : xs.size - 1 - m < xs.size := by omega
      have hr : m < xs.toList.reverse.length := by simp; omega
      rw [List.range_succ, List.filterMap_append, ih (by omega), List.take_succ_eq_append_getElem hr]
      congr 1
      simp only [List.filterMap_cons, List.filterMap_nil, e, Array.getElem?_eq_getElem hx]
      congr 1
      rw [List.getElem_reverse]
      simp
  rw [key xs.size (Nat.le_refl _), List.take_of_length_le (by simp)]
theorem getItem_tuple_rev {t sl : Addr} {items : Array Value} {vl vu vs : Value} {Q : Value → Shared → Prop} (ht : IsTup s.heap t items) (hs : s.heap.IsSliceOf sl vl vu vs) (pl : IsPart vl none) (pu : IsPart vu none) (ps : IsPart vs (some (-1)))
    (h : Q (.ref s.heap.objs.size) { s with heap := s.heap.push { cls := .type "tuple", data := .seq items.toList.reverse.toArray } })
    (hsz : items.size ≤ sizeLine) : wpAny (model prog w) A (getItem (.ref t) (.ref sl)) Q E s := by
  have htake : sizeOk (.seq items.toList.reverse.toArray) := by
    show items.toList.reverse.toArray.size ≤ sizeLine
    rw [List.size_toArray, List.length_reverse, Array.length_toList]
    omega
  obtain ⟨os, hos, hcs, hds⟩ := id hs
  have hTs : s.TypeIs (.ref sl) "slice" := ⟨os, hos, hcs⟩
  unfold getItem
  try with_reducible refine wpAny_holding ?_
  first | refine wpAny_bind (wpAny_pure ?_) | skip
  refine wpAny_bind (wpAny_sequenceKey ht.typeIs (by decide) ?_)
  refine wpAny_bind (wpAny_callSpecial?_slot (name := Str.ofString "__getitem__") ht.typeIs PyProof.Rows.slot_tuple_getitem
    (wpAny_call_entry PyProof.Rows.slot_tuple_getitem ht.typeIs entry_tuple_getitem ?_ (args_tuple_getitem _ _)))
  show wpAny _ _ (Builtin.Tuple.tupleItemsOf (.ref t) >>= _) _ _ s
  refine wpAny_bind (tupleItemsOf_ ht ?_)
  refine wpAny_bind (wpAny_typeOf hTs ?_)
  rw [if_pos (by decide)]
  refine wpAny_bind (sliceApplied_rev hs pl pu ps ?_)
  have hno : ¬ ((((items.size : Int) - 1) == 0 && (-1 : Int) == 1 && items.size == items.size) = true) := by
    rw [show ((-1 : Int) == 1) = false by decide, Bool.and_false, Bool.false_and]
    exact Bool.false_ne_true
  show wpAny _ _ (if (((items.size : Int) - 1) == 0 && (-1 : Int) == 1 && items.size == items.size) = true then _ else _) _ _ s
  rw [if_neg hno, pick_rev]
  first
    | exact wpAny_bind (m := Builtin.Tuple.tupleExact _) (wpAny_newObj_type (wpAny_pure ⟨_, rfl, wpAny_pure h⟩) htake)
    | exact wpAny_bind (m := Builtin.Tuple.tupleExact _) (wpAny_newObj_type (wpAny_bind (wpAny_pure (wpAny_pure ⟨_, rfl, wpAny_pure h⟩))) htake)
    | exact wpAny_bind (wpAny_bind (m := Builtin.Tuple.tupleExact _) (wpAny_newObj_type (wpAny_pure (wpAny_pure ⟨_, rfl, wpAny_pure h⟩)) htake))
    | exact wpAny_bind (wpAny_bind (m := Builtin.Tuple.tupleExact _) (wpAny_newObj_type (wpAny_pure ⟨_, rfl, wpAny_pure h⟩) htake))
end
section
variable {X : Cx}
def tRevA (K : PySem.W.Frag) (te : TE) : TE := fun σ H Q => te σ H fun x H1 => ∃ a xs, x = .ref a ∧ ((SqL K H1 a xs ∧ ∀ p, H1 p = none → Q (.ref p) (upd H1 p (.lst xs.reverse))) ∨ (SqT K H1 a xs ∧ ∀ p, H1 p = none → Q (.ref p) (upd H1 p (.tup xs.reverse))))
theorem pe_revA {e : Expr} {te : TE} {k : Nat} {p1 p2 p3 pos : Pos} (he : PE X e te) : PE X (.Subscript e (.Slice none none (some (.UnaryOp .USub (.Constant (.int 1) k p1) p2)) p3) pos) (tRevA X.K te) := by
  refine ⟨fun pins s σ H Q I h => ?_⟩
  refine Subscript_ (thn (he.run pins s σ H _ I h) fun v s1 ⟨x, H1, I1, r1, q1⟩ => ?_)
  obtain ⟨a, xs, ex, hx⟩ := q1
  subst ex
  cases r1
  have hst : PO X (some (.UnaryOp .USub (.Constant (.int 1) k p1) p2)) (tPart (tUn (rU fun i => .int (-i)) (tC (.int 1)))) := po_some (pe_un un_neg pe_int)
  refine wpAny_Slice (thn (po_none.run pins s1 σ H1 (fun o H2 => o = none ∧ H2 = H1) I1 ⟨rfl, rfl⟩) fun vl s2 ⟨l, H2, I2, pl, el, e2⟩ => ?_)
  subst el e2
  refine thn (po_none.run pins s2 σ H2 (fun o H3 => o = none ∧ H3 = H2) I2 ⟨rfl, rfl⟩) fun vu s3 ⟨u, H3, I3, pu, eu, e3⟩ => ?_
  subst eu e3
  refine thn (hst.run pins s3 σ H3 (fun o H4 => o = some (-1) ∧ H4 = H3) I3 ⟨1, rfl, -1, rfl, rfl, rfl⟩) fun vs s4 ⟨o, H4, I4, ps, eo, e4⟩ => ?_
  subst eo e4
  have I5 : Inv X pins σ H4 { s4 with heap := s4.heap.push { cls := .type "slice", data := .fields #[vl, vu, vs] } } := I4.kept (t' := s4.toks) fun b ob q => Heap.get?_push_of_some _ q
  show wpAny (model X.prog X.w) X.A (subscriptTail e (.Slice none none (some (.UnaryOp .USub (.Constant (.int 1) k p1) p2)) p3) (.ref a) (.ref s4.heap.objs.size)) (EP X pins σ Q) X.xe { s4 with heap := s4.heap.push { cls := .type "slice", data := .fields #[vl, vu, vs] } }
  rcases hx with ⟨hx, q⟩ | ⟨hx, q⟩
  · obtain ⟨its, r, ht, hz⟩ := I5.list hx
    have hlen := r.length
    refine tail_any (ops := [.ref a, .ref s4.heap.objs.size]) ht.isList.typeIs (PySem.slot_list_getitem.lookup) ?_ (by with_unfolding_all rfl)
    refine wpAny_getItem_list_slice ht.isList (Heap.IsSliceOf.new _ vl vu vs) pl pu ps (by decide) ?_ (by rw [List.size_toArray]; omega)
    rw [PySem.W.krv_pick]
    refine ⟨.ref _, _, I5.laid (t' := s4.toks) (o := .lst xs.reverse) (fun b ob q => Heap.get?_push_of_some _ q) (Nat.le_refl _) ?_, rfl, q _ (I5.hok.fresh (Nat.le_refl _))⟩
    exact ⟨by rw [List.length_reverse]; exact hz, _, 0, r.reverse, Heap.get?_push_size _ rfl⟩
  · obtain ⟨its, r, ht, hz⟩ := I5.tuple hx
    have hlen := r.length
    refine tail_any (ops := [.ref a, .ref s4.heap.objs.size]) ht.typeIs (PyProof.Rows.slot_tuple_getitem.lookup) ?_ (by with_unfolding_all rfl)
    refine getItem_tuple_rev ht (Heap.IsSliceOf.new _ vl vu vs) pl pu ps ?_ (by rw [List.size_toArray]; omega)
    refine ⟨.ref _, _, I5.laid (t' := s4.toks) (o := .tup xs.reverse) (fun b ob q => Heap.get?_push_of_some _ q) (Nat.le_refl _) ?_, rfl, q _ (I5.hok.fresh (Nat.le_refl _))⟩
    exact ⟨by rw [List.length_reverse]; exact hz, _, r.reverse, IsTup.new _ _⟩
variable {g : Ga} {x : CE} {a : Expr} {pos : Pos}
theorem RvA.rev {K : PySem.W.Frag} {F : Addr → Prop} {H : Hp} : ∀ {vs : List V} {ds : List D}, RvA K F H vs ds → RvA K F H vs.reverse ds.reverse
  | _, _, .nil => .nil
  | _, _, .cons r t => by
    rw [List.reverse_cons, List.reverse_cons]
    exact (RvA.rev t).append (.cons r .nil)
theorem pe_rev' {k : Nat} {p1 p2 p3 : Pos} (ha : PE X a (TDA X.K fun r => arB x (ev g x r) r)) : PE X (.Subscript a (.Slice none none (some (.UnaryOp .USub (.Constant (.int 1) k p1) p2)) p3) pos) (TD X.K (ev g (.stp x none (-1)))) :=
  wk (pe_revA ha) fun σ H Q ⟨F, r, o, r', re, he, kk⟩ => by
    simp only [ev, evo, Option.bind_eq_bind, Option.bind_eq_some_iff, Prod.exists] at he
    obtain ⟨u, r1, h1, i, r2, h2, p, hp, q, hq, h3⟩ := he
    cases h2
    cases h3
    refine ⟨F, r, u, _, re, h1, fun v1 H1 F1 g1 ra => ?_⟩
    have rp := ra.read g1.re hp
    have k2 := Out.fin re g1 kk
    unfold stpO at hq
    split at hq
    · rename_i ds e1 e2
      cases hq
      obtain ⟨a, vs, rfl, h1, h2, rs⟩ := Rv.tupE rp
      exact ⟨a, vs, rfl, .inr ⟨h1, fun w hw => k2.tnew rs.rev (by rw [List.length_reverse]; exact h2) hw⟩⟩
    · rename_i o _ _ _
      simp only [Option.map_eq_some_iff] at hq
      obtain ⟨ds, e, rfl⟩ := hq
      obtain ⟨a, vs, rfl, h1, h2, rs⟩ := rp.lst e
      exact ⟨a, vs, rfl, .inl ⟨h1, fun w hw => k2.lnew g1.re.dom rs.rev (by rw [List.length_reverse]; exact h2) hw⟩⟩
    all_goals simp_all
end
end Mp
end

/-! ## MpTodo -/
section
set_option linter.all false
/-! Mp: the rules of sorted, sorted(set(..)), zip(zip(..), ..) stand in MpSort4, MpSet2, MpZpz3. -/
end

/-! ## MpSound -/
section
set_option linter.all false
set_option maxRecDepth 100000
/-! Mp: every expression, every statement that compiles reads as its run. -/
namespace Mp
open PySem PySem.Spec PyProof.Rows L2
theorem mapO_all {α β : Type} {f : α → Option β} : ∀ {es : List α} {xs : List β}, mapO f es = some xs → Paired (fun e x => f e = some x) es xs
  | [], _, h => by
    cases h
    exact .nil
  | e :: es, xs, h => by
    simp only [mapO, Option.bind_eq_bind, Option.bind_eq_some_iff, Option.some.injEq] at h
    obtain ⟨y, h1, ys, h2, rfl⟩ := h
    exact .cons h1 (mapO_all h2)
/-- the built-in names that are used -/
def bltNames : List Str := ["abs", "len", "int", "sum", "all", "any", "min", "max", "sorted", "tuple", "list", "set", "isinstance", "range", "enumerate", "zip", "bool", "str", "dict"]
/-- what a call of the def nm needs -/
def FnCall (g : Ga) (X : Cx) (nm : Str) (sg : Sg) : Prop := ∃ (k : Nat) (f : Addr) (fd : FuncData) (ps : List Str) (np : Nat), FnOk X.prog X.w X.K X.mg X.base CX0 k f fd ps (spOf X.K np (g sg.ix)) ∧ Room k X.A ∧ X.mg nm = some (.ref f) ∧ PySem.W.keepIn X.K (.ref f) = true ∧
  ∀ n, (n, ([] : List Str)) ∈ sg.pats → ∀ sel, selOf sg n = some sel → ∃ ds dvs dd, Binds X.K fd ps ds ∧ Vals dvs ds ∧ selK [] sel = some dd ∧ (∀ F H, RvA X.K F H dvs dd) ∧ n + dd.length = np
/-- the module's own: the same within a comprehension -/
structure XOk (g : Ga) (c : Ct) (sc : Scope) (X : Cx) : Prop where
  calm : X.calm = true
  nd : X.N.Nodup
  hN : X.N = c.N
  hs : X.env.scope = sc
  un : X.A.units + 70 < cLine
  gl : ∀ x d, c.gl.lookup x = some d → ∃ v u, X.mg x = some u ∧ RelV v u ∧ ∀ F H, Rv X.K F H v d
  bl : ∀ x ∈ bltNames, c.gl.lookup x = none → c.fn.lookup x = none → c.cls.contains x = false → X.mg x = none
  po : PassesOwn (model X.prog X.w) X.A X.env X.xe
  cal : ∀ nm sg, c.fn.lookup nm = some sg → FnCall g X nm sg
theorem XOk.blk {g : Ga} {c : Ct} {sc scope : Scope} {X : Cx} (h : XOk g c sc X) (s : Shared) (H : Hp) (C : Addr) (cl : List (Str × Addr)) (fp : List Addr) : XOk g c (relS scope sc) (X.blk s H scope (compEnvC scope cl C X.env) fp) :=
  ⟨h.calm, h.nd, h.hN, by rw [← h.hs]; rfl, h.un, h.gl, h.bl, PassesOwn.never, h.cal⟩
structure Good (g : Ga) (X : Cx) (e : Expr) (x : CE) : Prop where
  pe : PE X e (TD X.K (ev g x))
  pt : PT X e (TB X.K (ev g x))
  nm : ∀ i, x = .nm i → PE X e (tVar i)
theorem Good.ar {g : Ga} {X : Cx} {e : Expr} {x : CE} (h : Good g X e x) : PE X e (TDA X.K fun r => arB x (ev g x r) r) := pe_ar h.pe h.nm
section
variable {g : Ga} {c : Ct} {sc : Scope} {X : Cx}
/-! ### names -/
theorem okName_d {x : Str} (h : okName x = true) : (x == ("__debug__" : Str)) = false ∧ (x == ("__classdict__" : Str)) = false ∧ x ≠ "__name__" := by
  unfold okName at h
  simp only [Bool.and_eq_true, Bool.not_eq_true'] at h
  exact ⟨h.1.1, h.1.2, fun z => by
    rw [z] at h
    have := h.2
    revert this
    decide⟩
theorem slotR_ok (h : XOk g c sc X) {x : Str} {i : Nat} (e : slotR c sc x = some i) : X.N[i]? = some x ∧ Vis X.env.scope x ∧ okName x = true := by
  unfold slotR at e
  split at e
  · rename_i hc
    rw [Bool.and_eq_true] at hc
    refine ⟨?_, ?_, hc.2⟩
    · unfold ixOf at e
      rw [h.hN]
      obtain ⟨hi, h2, _⟩ := List.findIdx?_eq_some_iff_getElem.mp e
      rw [List.getElem?_eq_getElem hi]
      exact congrArg some (eq_of_beq h2)
    · rw [h.hs]
      have := hc.1
      unfold visB at this
      unfold Vis
      split at this
      · rename_i q
        exact .inl q
      · rename_i q
        exact .inr (.inl q)
      · rename_i q
        exact .inr (.inr q)
      · cases this
  · cases e
theorem slotW_ok (h : XOk g c sc X) {x : Str} {i : Nat} (e : slotW c sc x = some i) : X.N[i]? = some x ∧ Loc X.env.scope x := by
  unfold slotW at e
  split at e
  · rename_i hc
    rw [Bool.and_eq_true] at hc
    refine ⟨?_, ?_⟩
    · unfold ixOf at e
      rw [h.hN]
      obtain ⟨hi, h2, _⟩ := List.findIdx?_eq_some_iff_getElem.mp e
      rw [List.getElem?_eq_getElem hi]
      exact congrArg some (eq_of_beq h2)
    · rw [h.hs]
      have := hc.1
      unfold locB at this
      unfold L2.Loc
      split at this
      · rename_i q
        exact .inl q
      · rename_i q
        exact .inr q
      · cases this
  · cases e
theorem isGlb_ok (h : XOk g c sc X) {x : Str} (e : isGlb sc x = true) : Gl X x ∧ okName x = true := by
  unfold isGlb at e
  rw [Bool.and_eq_true] at e
  refine ⟨?_, e.2⟩
  have := e.1
  unfold glbB at this
  split at this
  · rename_i q
    show X.env.scope.names.lookup x = _
    rw [h.hs]
    exact q
  · cases this
theorem isBlt_ok (h : XOk g c sc X) {x : Str} (e : isBlt c sc x = true) (m : x ∈ bltNames) : Gl X x ∧ X.mg x = none := by
  unfold isBlt at e
  simp only [Bool.and_eq_true, Bool.not_eq_true', Option.isNone_iff_eq_none] at e
  exact ⟨(isGlb_ok h e.1.1.1).1, h.bl x m e.1.1.2 e.1.2 e.2⟩
theorem var_ok (h : XOk g c sc X) {x : Str} {i : Nat} {pos : Pos} (e : slotR c sc x = some i) : PE X (.Name x pos) (tVar i) := by
  obtain ⟨h1, h2, h3⟩ := slotR_ok h e
  exact pe_var h1 h2 (okName_d h3).1 (okName_d h3).2.1
theorem name_ok (h : XOk g c sc X) {x : Str} {y : CE} {pos : Pos} (e : cName c sc x = some y) : Good g X (.Name x pos) y := by
  unfold cName at e
  split at e
  · rename_i i hi
    cases e
    have v : PE X (.Name x pos) (tVar i) := var_ok h hi
    exact ⟨pe_nm g v, pt_of (pe_nm g v) fun _ => rfl, fun j z => by
      cases z
      exact v⟩
  · split at e
    · rename_i hg
      simp only [Option.map_eq_some_iff] at e
      obtain ⟨d, hd, rfl⟩ := e
      obtain ⟨hg, ok⟩ := isGlb_ok h hg
      obtain ⟨v, u, h1, h2, h3⟩ := h.gl x d hd
      have p : PE X (.Name x pos) (TD X.K (ev g (.cst d))) := pe_cst (pe_glob hg h1 h2 (okName_d ok).1) h3
      exact ⟨p, pt_of p fun _ => rfl, fun j z => nomatch z⟩
    · cases e
/-! ### constants -/
theorem const_ok {k : Const} {d : D} {j : Nat} {pos : Pos} (e : constD k = some d) : Good g X (.Constant k j pos) (.cst d) := by
  have p : PE X (.Constant k j pos) (TD X.K (ev g (.cst d))) := by
    cases k with
    | none =>
      cases e
      exact pe_cst pe_non fun _ _ => .non
    | bool b =>
      cases e
      exact pe_cst pe_bl fun _ _ => .bl b
    | int i =>
      cases e
      exact pe_cst pe_int fun _ _ => .int i
    | str s =>
      unfold constD at e
      simp only at e
      split at e
      · rename_i hc
        cases e
        rw [Bool.and_eq_true] at hc
        exact pe_cst pe_str fun _ _ => .str s hc.1 (of_decide_eq_true hc.2)
      · cases e
    | _ => cases e
  exact ⟨p, pt_of p fun _ => rfl, fun j z => nomatch z⟩
/-! ### rows -/
theorem rows_v {es : List Expr} {xs : List CE} (h : Paired (fun e x => PE X e (TD X.K (ev g x))) es xs) (n : es.all notStar = true) : PA X es (TV X.K (evs g xs)) := by
  induction h with
  | nil => exact pa_v0
  | cons h1 _ ih =>
    obtain ⟨n1, n2⟩ := Bool.and_eq_true_iff.mp (show (notStar _ && List.all _ notStar) = true from n)
    exact pa_v1 h1 (ih n2) n1
theorem rows_a {es : List Expr} {xs : List CE} (h : Paired (fun e x => Good g X e x) es xs) (n : es.all notStar = true) : PA X es (TAa X.K (evas g xs)) := by
  induction h with
  | nil => exact pa_a0
  | cons h1 _ ih =>
    obtain ⟨n1, n2⟩ := Bool.and_eq_true_iff.mp (show (notStar _ && List.all _ notStar) = true from n)
    exact pa_a1 h1.ar (ih n2) n1
theorem rows_c {es : List Expr} {xs : List CE} (h : Paired (fun e x => Good g X e x) es xs) (n : es.all notStar = true) : PA X es (TAc X.K (evac g xs)) := by
  induction h with
  | nil => exact pa_c0
  | cons h1 _ ih =>
    obtain ⟨n1, n2⟩ := Bool.and_eq_true_iff.mp (show (notStar _ && List.all _ notStar) = true from n)
    exact pa_c1 h1.pe h1.nm (ih n2) n1
theorem rows_o {es : List Expr} {xs : List CE} (h : Paired (fun e x => Good g X e x) es xs) (n : es.all notStar = true) : PA X es (TOs X.K (evOs g xs)) := by
  induction h with
  | nil => exact pa_o0
  | cons h1 _ ih =>
    obtain ⟨n1, n2⟩ := Bool.and_eq_true_iff.mp (show (notStar _ && List.all _ notStar) = true from n)
    exact pa_o1 h1.pe (ih n2) n1
/-! ### and, or -/
theorem bool_ok {op : BoolOp} {pos : Pos} : ∀ {es : List Expr} {xs : List CE} {y : CE} {a : Expr} {x : CE}, Good g X a x → Paired (fun e x => Good g X e x) es xs → cBool op (x :: xs) = some y → PE X (.BoolOp op (a :: es) pos) (TD X.K (ev g y)) ∧ PW X (.BoolOp op (a :: es) pos) (TB X.K (ev g y))
  | [], _, y, a, x, h1, .nil, e => by
    have e : some x = some y := by cases op <;> exact e
    cases e
    refine ⟨pe_one h1.pe, ?_⟩
    cases op with
    | And => exact pw_and1 h1.pt
    | Or => exact pw_or1 h1.pt
  | b :: es, _, y, a, x, h1, .cons (b := z) (l₂ := zs) h2 h3, e => by
    cases op with
    | And =>
      have e' : (cBool .And (z :: zs)).map (fun y => CE.and x y) = some y := e
      simp only [Option.map_eq_some_iff] at e'
      obtain ⟨w, e2, rfl⟩ := e'
      obtain ⟨i1, i2⟩ := bool_ok (pos := pos) h2 h3 e2
      exact ⟨wk (pe_and h1.pe i1) fun σ H Q ⟨F, r, o, r', re, he, k⟩ => and_to re he k, wkW (pw_and h1.pt i2) fun σ H Q ⟨F, r, b, r', re, he, k⟩ => andT_to re he k⟩
    | Or =>
      have e' : (cBool .Or (z :: zs)).map (fun y => CE.or x y) = some y := e
      simp only [Option.map_eq_some_iff] at e'
      obtain ⟨w, e2, rfl⟩ := e'
      obtain ⟨i1, i2⟩ := bool_ok (pos := pos) h2 h3 e2
      exact ⟨wk (pe_or h1.pe i1) fun σ H Q ⟨F, r, o, r', re, he, k⟩ => or_to re he k, wkW (pw_or h1.pt i2) fun σ H Q ⟨F, r, b, r', re, he, k⟩ => orT_to re he k⟩
/-! ### built-in calls -/
theorem blOf_mem {x : Str} {n : Nat} {b : Bl} (h : blOf x n = some b) : (x, n, b) ∈ blTab := by
  unfold blOf at h
  simp only [Option.map_eq_some_iff] at h
  obtain ⟨q, h1, rfl⟩ := h
  have h2 := List.find?_some h1
  have h3 := List.mem_of_find?_eq_some h1
  rw [Bool.and_eq_true] at h2
  rw [← eq_of_beq h2.1, ← (beq_iff_eq.mp h2.2)]
  exact h3
theorem blt_rule (h : XOk g c sc X) {x : Str} {n : Nat} {b : Bl} (e : (x, n, b) ∈ blTab) : ∃ fv, IsB fv x ∧ CallR X fv (RRn X.K (blO b)) ∧ x ∈ bltNames ∧ n ≠ 0 := by
  have hc := h.calm
  unfold blTab at e
  simp only [List.mem_cons, Prod.mk.injEq, List.not_mem_nil, or_false] at e
  rcases e with ⟨rfl, rfl, rfl⟩ | ⟨rfl, rfl, rfl⟩ | ⟨rfl, rfl, rfl⟩ | ⟨rfl, rfl, rfl⟩ | ⟨rfl, rfl, rfl⟩ | ⟨rfl, rfl, rfl⟩ | ⟨rfl, rfl, rfl⟩ | ⟨rfl, rfl, rfl⟩ | ⟨rfl, rfl, rfl⟩ | ⟨rfl, rfl, rfl⟩ | ⟨rfl, rfl, rfl⟩ | ⟨rfl, rfl, rfl⟩ | ⟨rfl, rfl, rfl⟩
  · exact ⟨_, ⟨by decide +kernel, .inl ⟨"abs", rfl⟩⟩, cb_abs, by decide, by decide⟩
  · exact ⟨_, ⟨by decide +kernel, .inl ⟨"len", rfl⟩⟩, cb_len, by decide, by decide⟩
  · exact ⟨_, ⟨by decide +kernel, .inr ⟨"int", rfl⟩⟩, cb_int, by decide, by decide⟩
  · exact ⟨_, ⟨by decide +kernel, .inl ⟨"sum", rfl⟩⟩, cb_sum hc, by decide, by decide⟩
  · exact ⟨_, ⟨by decide +kernel, .inl ⟨"all", rfl⟩⟩, cb_all hc, by decide, by decide⟩
  · exact ⟨_, ⟨by decide +kernel, .inl ⟨"any", rfl⟩⟩, cb_any hc, by decide, by decide⟩
  · exact ⟨_, ⟨by decide +kernel, .inl ⟨"min", rfl⟩⟩, cb_min1 hc, by decide, by decide⟩
  · exact ⟨_, ⟨by decide +kernel, .inl ⟨"max", rfl⟩⟩, cb_max1 hc, by decide, by decide⟩
  · exact ⟨_, ⟨by decide +kernel, .inl ⟨"min", rfl⟩⟩, cb_min2 hc, by decide, by decide⟩
  · exact ⟨_, ⟨by decide +kernel, .inl ⟨"max", rfl⟩⟩, cb_max2 hc, by decide, by decide⟩
  · exact ⟨_, ⟨by decide +kernel, .inl ⟨"sorted", rfl⟩⟩, cb_sorted hc h.un, by decide, by decide⟩
  · exact ⟨_, ⟨by decide +kernel, .inr ⟨"tuple", rfl⟩⟩, cb_tuple, by decide, by decide⟩
  · exact ⟨_, ⟨by decide +kernel, .inr ⟨"list", rfl⟩⟩, cb_list, by decide, by decide⟩
theorem bltNames_ok {x : Str} (h : x ∈ bltNames) : x ≠ "__name__" ∧ (x == ("__debug__" : Str)) = false := by
  unfold bltNames at h
  simp only [List.mem_cons, List.not_mem_nil, or_false] at h
  rcases h with rfl | rfl | rfl | rfl | rfl | rfl | rfl | rfl | rfl | rfl | rfl | rfl | rfl | rfl | rfl | rfl | rfl | rfl | rfl <;> exact ⟨by decide, by decide⟩
end
end Mp
end

/-! ## MpSound2 -/
section
set_option linter.all false
set_option maxRecDepth 100000
namespace Mp
open PySem PySem.Spec PyProof.Rows L2
section
variable {g : Ga} {c : Ct} {sc : Scope} {X : Cx}
theorem good_of {e : Expr} {x : CE} (p : PE X e (TD X.K (ev g x))) (h : ∀ whole, isTrue e X.env whole = (do let v ← whole; standAt e.pos; holding [v] (truthy v))) (n : ∀ i, x ≠ .nm i) : Good g X e x := ⟨p, pt_of p h, fun i z => absurd z (n i)⟩
/-- what rec makes of expressions is sound -/
def Rec (g : Ga) (c : Ct) (rec : Scope → Expr → Option CE) : Prop := ∀ sc e x X, XOk g c sc X → rec sc e = some x → Good g X e x
theorem rec_all {rec : Scope → Expr → Option CE} (R : Rec g c rec) (h : XOk g c sc X) {es : List Expr} {xs : List CE} (e : mapO (rec sc) es = some xs) : Paired (fun e x => Good g X e x) es xs :=
  Paired.mapP (mapO_all e) fun a b q => R sc a b X h q
theorem goods_pe {es : List Expr} {xs : List CE} (h : Paired (fun e x => Good g X e x) es xs) : Paired (fun e x => PE X e (TD X.K (ev g x))) es xs := Paired.mapP h fun _ _ q => q.pe
theorem goods_len {α β : Type} {R : α → β → Prop} {es : List α} {xs : List β} (h : Paired R es xs) : es.length = xs.length := Paired.length h
/-- a call of a built-in function, any arguments -/
theorem gen_ok (h : XOk g c sc X) {x : Str} {b : Bl} {as : List Expr} {xs : List CE} {p pos : Pos} (hb : isBlt c sc x = true) (e : blOf x as.length = some b) (ps : Paired (fun e x => Good g X e x) as xs) (n : as.all notStar = true) : Good g X (.Call (.Name x p) as [] pos) (.blt b xs) := by
  obtain ⟨fv, h1, h2, h3, h4⟩ := blt_rule h (blOf_mem e)
  obtain ⟨hg, hm⟩ := isBlt_ok h hb h3
  obtain ⟨k1, k2⟩ := bltNames_ok h3
  cases as with
  | nil => exact absurd rfl h4
  | cons a as =>
    refine good_of (pe_call1 h2 h1 hg hm k1 k2 (rows_a ps n) n fun r => ?_) (fun _ => rfl) fun i z => nomatch z
    rw [ev]
/-- isinstance -/
theorem isi_ok (h : XOk g c sc X) {e : Expr} {t : Str} {ty : Ty} {x : CE} {p tp pos : Pos} (hb : isBlt c sc "isinstance" = true) (ht : isBlt c sc t = true) (et : tyOf t = some ty) (he : Good g X e x) (n : notStar e = true) :
    Good g X (.Call (.Name "isinstance" p) [e, .Name t tp] [] pos) (.isi ty x) := by
  obtain ⟨hg, hm⟩ := isBlt_ok h hb (by decide)
  have tt : t ∈ bltNames ∧ bootBuiltins t = some (.type (tyNm ty)) := by
    unfold tyOf at et
    repeat' split at et
    all_goals first | (cases et; rename_i q; have q' := eq_of_beq q; subst q'; exact ⟨by decide, by decide +kernel⟩) | cases et
  obtain ⟨hg2, hm2⟩ := isBlt_ok h ht tt.1
  obtain ⟨k1, k2⟩ := bltNames_ok tt.1
  have pt : PE X (.Name t tp) (tC (.ty (tyNm ty))) := pe_bltn hg2 hm2 tt.2 rfl k1 k2
  have pa : PA X [e, .Name t tp] (tCons (TDA X.K fun r => arB x (ev g x r) r) (tCons (tC (.ty (tyNm ty))) tNil)) := pa_cons he.ar (pa_cons pt pa_nil rfl) (star_cons n)
  refine good_of (wk (pe_callB call_isi hg hm boot_isinstance pa (by decide) (by decide) (star_cons n) rfl) fun σ H Q ⟨F, r, o, r', re, hh, k⟩ => ?_) (fun _ => rfl) fun i z => nomatch z
  simp only [ev, Option.bind_eq_bind, Option.bind_eq_some_iff, Prod.exists] at hh
  obtain ⟨u, r1, h1, q, h2, h3⟩ := hh
  cases h3
  refine ⟨F, r, u, _, re, h1, fun v H1 F1 g1 ra => ?_⟩
  exact ⟨v, .ty (tyNm ty), _, _, _, rfl, .ty _, RO.ty (ra.read g1.re h2), kit_ty (kitB_ty ty q.d), k _ H1 F1 g1 (.v (.bl _))⟩
theorem blt_ok {rec : Scope → Expr → Option CE} (R : Rec g c rec) (h : XOk g c sc X) {x : Str} {as : List Expr} {y : CE} {p pos : Pos} (hb : isBlt c sc x = true) (e : cBlt (rec sc) c sc x as = some y) (n : as.all notStar = true) : Good g X (.Call (.Name x p) as [] pos) y := by
  have gen : ∀ {as : List Expr} {y : CE}, ((blOf x as.length).bind fun b => (mapO (rec sc) as).map (.blt b)) = some y → as.all notStar = true → Good g X (.Call (.Name x p) as [] pos) y := fun {as y} e n => by
    simp only [Option.bind_eq_some_iff, Option.map_eq_some_iff] at e
    obtain ⟨b, e1, xs, e2, rfl⟩ := e
    exact gen_ok h hb e1 (rec_all R h e2) n
  unfold cBlt at e
  split at e
  · rename_i a t tp hx
    split at e
    · rename_i ht
      simp only [Option.bind_eq_some_iff, Option.map_eq_some_iff] at e
      obtain ⟨ty, e1, z, e2, rfl⟩ := e
      have hx' := eq_of_beq hx
      subst hx'
      obtain ⟨n1, _⟩ := Bool.and_eq_true_iff.mp (show (notStar a && _) = true from n)
      exact isi_ok h hb ht e1 (R sc a z X h e2) n1
    · cases e
  · cases e
  · rename_i yy p2 a pos2 hx
    split at e
    · rename_i hset
      rw [Bool.and_eq_true] at hset
      have hy := eq_of_beq hset.1
      subst hy
      split at e
      · rename_i hs
        rw [Bool.and_eq_true] at hs
        have hxx := eq_of_beq hs.1
        subst hxx
        simp only [Option.map_eq_some_iff] at e
        obtain ⟨z, e1, rfl⟩ := e
        obtain ⟨hg, hm⟩ := isBlt_ok h hb (by decide)
        obtain ⟨hg2, hm2⟩ := isBlt_ok h hset.2 (by decide)
        exact good_of (pe_setsorted h.calm h.un hg hm hg2 hm2 (R sc a z X h e1).ar hs.2) (fun _ => rfl) fun i z => nomatch z
      · cases e
    · exact gen e n
  · rename_i yy p2 a b pos2 hx
    split at e
    · rename_i hset
      rw [Bool.and_eq_true] at hset
      have hy := eq_of_beq hset.1
      subst hy
      split at e
      · rename_i hs
        rw [Bool.and_eq_true, Bool.and_eq_true] at hs
        have hxx := eq_of_beq hs.1
        subst hxx
        simp only [Option.bind_eq_some_iff, Option.map_eq_some_iff] at e
        obtain ⟨u, e1, v, e2, rfl⟩ := e
        obtain ⟨hg, hm⟩ := isBlt_ok h hb (by decide)
        obtain ⟨hg2, hm2⟩ := isBlt_ok h hset.2 (by decide)
        exact good_of (pe_listzip h.calm hg hm hg2 hm2 (R sc a u X h e1).ar (R sc b v X h e2).ar hs.2.1 hs.2.2) (fun _ => rfl) fun i z => nomatch z
      · cases e
    · exact gen e n
  · exact gen e n
/-- a call of a def -/
theorem cal_ok {rec : Scope → Expr → Option CE} (R : Rec g c rec) (h : XOk g c sc X) {x : Str} {as : List Expr} {y : CE} {p pos : Pos} (e : cCallN (rec sc) c sc x as = some y) : Good g X (.Call (.Name x p) as [] pos) y := by
  unfold cCallN at e
  split at e
  · rename_i hc
    rw [Bool.and_eq_true] at hc
    obtain ⟨n, hgl⟩ := hc
    obtain ⟨hg, ok⟩ := isGlb_ok h hgl
    split at e
    · rename_i sg hsg
      split at e
      · rename_i hp
        simp only [Option.bind_eq_some_iff, Option.map_eq_some_iff] at e
        obtain ⟨sel, e1, xs, e2, rfl⟩ := e
        obtain ⟨k, f, fd, ps, np, Fo, hr, hm, hk, hb⟩ := h.cal x sg hsg
        obtain ⟨ds, dvs, dd, b1, b2, b3, b4, b5⟩ := hb as.length (by simpa using hp) sel e1
        have pr := rec_all R h e2
        have ln := goods_len pr
        refine good_of (pe_cal' Fo hr hg hm hk b1 b2 b3 b4 (by omega) (rows_c pr n) (fun z => ?_) n (okName_d ok).1) (fun _ => rfl) fun i z => nomatch z
        subst z
        cases xs with
        | nil => rfl
        | cons _ _ => cases ln
      · cases e
    · split at e
      · rename_i hb
        exact blt_ok R h hb e n
      · cases e
  · cases e
/-- a method's call -/
theorem mth_ok {rec : Scope → Expr → Option CE} (R : Rec g c rec) (h : XOk g c sc X) {nm m : Str} {as : List Expr} {y : CE} {np apos cpos : Pos} (e : cCallM (rec sc) c sc nm m as = some y) (n : as.all notStar = true) (hl : (apos.endLine == cpos.line) = true) :
    Good g X (.Call (.Attribute (.Name nm np) m apos) as [] cpos) y := by
  unfold cCallM at e
  split at e
  · cases e
  · rename_i i hi
    have v : PE X (.Name nm np) (tVar i) := var_ok h hi
    split at e
    · rename_i a
      obtain ⟨n1, _⟩ := Bool.and_eq_true_iff.mp (show (notStar a && _) = true from n)
      split at e
      · rename_i hm
        have hm' := eq_of_beq hm
        subst hm'
        simp only [Option.map_eq_some_iff] at e
        obtain ⟨z, e1, rfl⟩ := e
        exact good_of (pe_app' v (R sc a z X h e1).pe n1 rfl hl) (fun _ => rfl) fun i z => nomatch z
      · split at e
        · rename_i hm
          have hm' := eq_of_beq hm
          subst hm'
          simp only [Option.map_eq_some_iff] at e
          obtain ⟨z, e1, rfl⟩ := e
          exact good_of (pe_pop' v (R sc a z X h e1).pe n1 rfl hl) (fun _ => rfl) fun i z => nomatch z
        · cases e
    · rename_i a b
      obtain ⟨n1, n2⟩ := Bool.and_eq_true_iff.mp (show (notStar a && List.all [b] notStar) = true from n)
      obtain ⟨n2, _⟩ := Bool.and_eq_true_iff.mp (show (notStar b && _) = true from n2)
      split at e
      · rename_i hm
        have hm' := eq_of_beq hm
        subst hm'
        simp only [Option.bind_eq_some_iff, Option.map_eq_some_iff] at e
        obtain ⟨z, e1, w, e2, rfl⟩ := e
        exact good_of (pe_get' h.un v (R sc a z X h e1).ar (R sc b w X h e2).ar n1 n2 hl) (fun _ => rfl) fun i z => nomatch z
      · cases e
    · cases e
end
end Mp
end

/-! ## MpSound3 -/
section
set_option linter.all false
set_option maxRecDepth 100000
namespace Mp
open PySem PySem.Spec PyProof.Rows L2
section
variable {g : Ga} {c : Ct} {sc : Scope} {X : Cx}
/-! ### what is walked -/
theorem it_ok {rec : Scope → Expr → Option CE} (R : Rec g c rec) (h : XOk g c sc X) {tg e : Expr} {it : It} (q : cIt (rec sc) c sc tg e = some it) : PI X tg e (TIm X.K (evit g it)) ∧ ∀ x, foldedSetIterable e X.env x = pure x := by
  have sq : ∀ {e : Expr} {it : It}, (rec sc e).map It.sq = some it → PI X tg e (TIm X.K (evit g it)) := fun {e it} q => by
    simp only [Option.map_eq_some_iff] at q
    obtain ⟨z, e1, rfl⟩ := q
    exact pi_sq' (R sc e z X h e1).ar
  have tup : ∀ {e : Expr}, isTup e = true → ∃ elts kk tpos, e = .Tuple elts kk tpos := fun {e} q => by
    cases e <;> first | exact ⟨_, _, _, rfl⟩ | cases q
  unfold cIt at q
  split at q
  · cases q
  · rename_i x p as kws p2
    refine ⟨?_, fun _ => rfl⟩
    split at q
    · rename_i y yp a1 a2 q1 b hc
      rw [Bool.and_eq_true] at hc
      obtain ⟨hb, hk⟩ := hc
      have hk' : kws = [] := by simpa using hk
      subst hk'
      split at q
      · rename_i hz
        have hz' := eq_of_beq hz
        subst hz'
        split at q
        · rename_i hcnd
          simp only [Bool.and_eq_true] at hcnd
          obtain ⟨⟨hy, hyb⟩, ht, n1, n2, n3⟩ := hcnd
          have hy' := eq_of_beq hy
          subst hy'
          simp only [Option.bind_eq_some_iff, Option.map_eq_some_iff] at q
          obtain ⟨u, e1, v, e2, w, e3, rfl⟩ := q
          obtain ⟨elts, kk, tpos, rfl⟩ := tup ht
          obtain ⟨hg, hm⟩ := isBlt_ok h hb (by decide)
          exact pi_zpz' h.calm hg hm (R sc a1 u X h e1).ar (R sc a2 v X h e2).ar (R sc b w X h e3).ar n1 n2 n3
        · cases q
      · cases q
    · rename_i a hc
      rw [Bool.and_eq_true] at hc
      obtain ⟨hb, hk⟩ := hc
      have hk' : kws = [] := by simpa using hk
      subst hk'
      split at q
      · rename_i hz
        have hz' := eq_of_beq hz
        subst hz'
        obtain ⟨hg, hm⟩ := isBlt_ok h hb (by decide)
        split at q
        · rename_i n1
          simp only [Option.map_eq_some_iff] at q
          obtain ⟨u, e1, rfl⟩ := q
          exact pi_rng1 hg hm (R sc a u X h e1).pe n1
        · cases q
      · split at q
        · rename_i hz
          have hz' := eq_of_beq hz
          subst hz'
          obtain ⟨hg, hm⟩ := isBlt_ok h hb (by decide)
          split at q
          · rename_i hcnd
            rw [Bool.and_eq_true] at hcnd
            simp only [Option.map_eq_some_iff] at q
            obtain ⟨u, e1, rfl⟩ := q
            obtain ⟨elts, kk, tpos, rfl⟩ := tup hcnd.1
            exact pi_enm' hg hm (R sc a u X h e1).ar hcnd.2
          · cases q
        · exact sq q
    · rename_i a b hc hno
      rw [Bool.and_eq_true] at hno
      obtain ⟨hb, hk⟩ := hno
      have hk' : kws = [] := by simpa using hk
      subst hk'
      split at q
      · rename_i hz
        have hz' := eq_of_beq hz
        subst hz'
        obtain ⟨hg, hm⟩ := isBlt_ok h hb (by decide)
        split at q
        · rename_i hcnd
          rw [Bool.and_eq_true] at hcnd
          simp only [Option.bind_eq_some_iff, Option.map_eq_some_iff] at q
          obtain ⟨u, e1, v, e2, rfl⟩ := q
          exact pi_rng2 hg hm (R sc a u X h e1).pe (R sc b v X h e2).pe hcnd.1 hcnd.2
        · cases q
      · split at q
        · rename_i hz
          have hz' := eq_of_beq hz
          subst hz'
          obtain ⟨hg, hm⟩ := isBlt_ok h hb (by decide)
          split at q
          · rename_i hcnd
            simp only [Bool.and_eq_true] at hcnd
            simp only [Option.bind_eq_some_iff, Option.map_eq_some_iff] at q
            obtain ⟨u, e1, v, e2, rfl⟩ := q
            obtain ⟨elts, kk, tpos, rfl⟩ := tup hcnd.1
            exact pi_zip' hg hm (R sc a u X h e1).ar (R sc b v X h e2).ar hcnd.2.1 hcnd.2.2
          · cases q
        · exact sq q
    · exact sq q
  · rename_i hn1 hn2
    refine ⟨sq q, fun x => ?_⟩
    cases e <;> first | rfl | exact absurd rfl (hn1 _ _ _)
/-! ### targets -/
def Hf (X : Cx) (is : List Nat) : Prop := ∀ i ∈ is, ∀ x, X.N[i]? = some x → L2.Loc X.env.scope x → X.fn x = true ∨ X.env.scope.names.lookup x = some .local
theorem tgs_of {f : Expr → Option Tg} (ih : ∀ {e : Expr} {t : Tg}, f e = some t → Hf X (tgSl t) → (∀ W : Nat → Prop, (∀ i ∈ tgSl t, W i) → PG X e (TGm X.K W t)) ∧ ∀ es : List Expr, assignEach (e :: es) X.env = (false, assign e X.env) :: assignEach es X.env) :
    ∀ {es : List Expr} {ts : List Tg}, Paired (fun e t => f e = some t) es ts → Hf X (tgsSl ts) → (∀ W : Nat → Prop, (∀ i ∈ tgsSl ts, W i) → PGs X es (TGms X.K W ts)) ∧ (assignEach es X.env).length = ts.length ∧ (assignEach es X.env).findIdx? (·.1) = none
  | _, _, .nil, _ => ⟨fun W _ => pgs_0, rfl, rfl⟩
  | _, _, .cons h1 h2, hf => by
    obtain ⟨a1, a2⟩ := ih h1 fun i hi => hf i (by rw [tgsSl]; exact List.mem_append_left _ hi)
    obtain ⟨b1, b2, b3⟩ := tgs_of ih h2 fun i hi => hf i (by rw [tgsSl]; exact List.mem_append_right _ hi)
    refine ⟨fun W hW => pgs_1 (a1 W fun i hi => hW i (by rw [tgsSl]; exact List.mem_append_left _ hi)) (b1 W fun i hi => hW i (by rw [tgsSl]; exact List.mem_append_right _ hi)) (by rw [a2]; rfl), by rw [a2]; exact congrArg Nat.succ b2, ?_⟩
    rw [a2, List.findIdx?_cons]
    simp [b3]
theorem tg_ok (h : XOk g c sc X) : ∀ (n : Nat) {e : Expr} {t : Tg}, cTg n c sc e = some t → Hf X (tgSl t) →
    (∀ W : Nat → Prop, (∀ i ∈ tgSl t, W i) → PG X e (TGm X.K W t)) ∧ ∀ es : List Expr, assignEach (e :: es) X.env = (false, assign e X.env) :: assignEach es X.env
  | 0, _, _, q, _ => by cases q
  | n + 1, e, t, q, hf => by
    have ih : ∀ {e : Expr} {t : Tg}, cTg n c sc e = some t → Hf X (tgSl t) → (∀ W : Nat → Prop, (∀ i ∈ tgSl t, W i) → PG X e (TGm X.K W t)) ∧ ∀ es : List Expr, assignEach (e :: es) X.env = (false, assign e X.env) :: assignEach es X.env := fun {e t} => tg_ok h n
    unfold cTg at q
    split at q
    · cases ‹Nat.succ _ = 0›
    · simp only [Option.map_eq_some_iff] at q
      obtain ⟨i, e1, rfl⟩ := q
      obtain ⟨h1, h2⟩ := slotW_ok h e1
      exact ⟨fun W hW => pg_nm h.nd h1 h2 (hf i (by simp [tgSl]) _ h1 h2) (hW i (by simp [tgSl])), fun _ => rfl⟩
    · rename_i es k p hn
      have hn' := Nat.succ.inj hn
      subst hn'
      simp only [Option.map_eq_some_iff] at q
      obtain ⟨ts, e1, rfl⟩ := q
      obtain ⟨b1, b2, b3⟩ := tgs_of ih (mapO_all e1) (by
        intro i hi
        exact hf i (by rw [tgSl]; exact hi))
      exact ⟨fun W hW => pg_tp h.calm (b1 W fun i hi => hW i (by rw [tgSl]; exact hi)) b2 b3, fun _ => rfl⟩
    · cases q
/-! ### the names of a comprehension's block -/
theorem own_ok {scope : Scope} (h : blkOkB c.N sc scope (ownOf c.N scope) = true) : BlkOk c.N sc scope (ownOf c.N scope) := by
  unfold blkOkB at h
  simp only [Bool.and_eq_true, decide_eq_true_eq, List.all_eq_true] at h
  obtain ⟨⟨⟨⟨h1, h2⟩, h3⟩, h4⟩, h5⟩ := h
  refine ⟨h1, h2, h3, fun y hy e => ?_, fun y hy e => ?_⟩
  · have := h4 y hy
    simp only [Bool.or_eq_true, Bool.not_eq_true', decide_eq_false_iff_not, decide_eq_true_eq] at this
    rcases this with (z | z) | z
    · exact absurd e z
    · exact .inl z
    · exact .inr z
  · have := h5 y hy
    simp only [Bool.or_eq_true, Bool.not_eq_true', Bool.or_eq_false_iff, decide_eq_false_iff_not, List.contains_iff_mem] at this
    rcases this with (z | z) | z
    · rcases e with e | e
      · exact absurd e z.1
      · exact absurd e z.2
    · exact .inl z
    · refine .inr fun q => ?_
      have : c.N.contains y.1 = true := by simpa using q
      rw [this] at z
      cases z
theorem mem_ownOf {N : List Str} {scope : Scope} {x : Str} {i : Nat} (h : (x, i) ∈ ownOf N scope) : ((x, NameKind.local) ∈ scope.names ∨ (x, NameKind.cell) ∈ scope.names) := by
  unfold ownOf at h
  rw [List.mem_filterMap] at h
  obtain ⟨⟨y, k⟩, hy, e⟩ := h
  cases k <;> simp only [Option.map_eq_some_iff, Prod.mk.injEq] at e
  all_goals first | (obtain ⟨j, _, rfl, rfl⟩ := e; first | exact .inl hy | exact .inr hy) | cases e
/-- a target within the block may be stored -/
theorem blk_hf (h : XOk g c sc X) {scope : Scope} (ok : BlkOk c.N sc scope (ownOf c.N scope)) {s : Shared} {H : Hp} {C : Addr} {cl : List (Str × Addr)} {fp : List Addr} {t : Tg} (ht : tgIn ((ownOf c.N scope).map (·.2)) t = true) :
    Hf (X.blk s H scope (compEnvC scope cl C X.env) fp) (tgSl t) := by
  intro i hi x hx hl
  have hm := tgIn_sl ht i hi
  rw [List.mem_map] at hm
  obtain ⟨⟨y, j⟩, hy, rfl⟩ := hm
  have e1 := ok.ix _ hy
  have hx' : c.N[j]? = some x := by rw [← h.hN]; exact hx
  rw [hx'] at e1
  have e2 : x = y := Option.some.inj e1
  subst e2
  rcases mem_ownOf hy with z | z
  · have := ok.uniq _ z
    refine .inr ?_
    show (relS scope X.env.scope).names.lookup x = some .local
    exact lookup_relS_keep (fun q => nomatch q) this
  · have := ok.uniq _ z
    refine .inl ?_
    show (scope.names.lookup x == some .cell) = true
    rw [this]
    rfl
end
end Mp
end

/-! ## MpSound4 -/
section
set_option linter.all false
set_option maxRecDepth 100000
namespace Mp
open PySem PySem.Spec PyProof.Rows L2
section
variable {g : Ga} {c : Ct} {sc : Scope} {X : Cx}
theorem pt_ife' {a b cc : Expr} {x y z : CE} {pos : Pos} (hc : PT X cc (TB X.K (ev g z))) (ha : PT X a (TB X.K (ev g x))) (hb : PT X b (TB X.K (ev g y))) : PT X (.IfExp cc a b pos) (TB X.K (ev g (.ife z x y))) := by
  refine ⟨fun pins s σ H Q I ⟨F, r, o, r', re, he, k⟩ => ?_⟩
  simp only [ev, Option.bind_eq_bind, Option.bind_eq_some_iff, Prod.exists] at he
  obtain ⟨u, r1, h1, q, hq, he⟩ := he
  unfold bolO at hq
  split at hq
  · cases hq
    refine isTrue_IfExp (thn (hc.run pins s σ H (fun b H1 => b = q ∧ ∃ F1, GoE X.K F H r σ F1 H1 r1) I ⟨F, r, q, r1, re, h1, fun H1 F1 g1 => ⟨rfl, F1, g1⟩⟩) fun d s1 ⟨H1, I1, hd, F1, g1⟩ => ?_)
    subst hd
    cases d with
    | true => exact ha.run pins s1 σ H1 Q I1 ⟨F1, r1, o, r', g1.re, he, fun H2 F2 g2 => k H2 F2 (g1.trans g2)⟩
    | false => exact hb.run pins s1 σ H1 Q I1 ⟨F1, r1, o, r', g1.re, he, fun H2 F2 g2 => k H2 F2 (g1.trans g2)⟩
  · cases hq
theorem opB_of {op : Operator} {o : BOp} (h : opB op = some o) : op = opOf o := by
  cases op <;> simp only [opB, Option.some.injEq] at h <;> first | (subst h; rfl) | cases h
theorem pt_chain_is {g : Ga} {X : Cx} {e : Expr} {x : CE} (p : PE X e (TD X.K (ev g x))) (q : PT X e (TB X.K (ev g x))) (n : ∀ i, x ≠ .nm i) : Good g X e x := ⟨p, q, fun i z => absurd z (n i)⟩
theorem opt_ok {rec : Scope → Expr → Option CE} (R : Rec g c rec) (h : XOk g c sc X) {e : Option Expr} {x : Option CE} (q : cOpt (rec sc) e = some x) : PO X e (TO' X.K (evo g x)) := by
  cases e with
  | none =>
    cases q
    exact po_0
  | some e =>
    simp only [cOpt, Option.map_eq_some_iff] at q
    obtain ⟨z, e1, rfl⟩ := q
    exact po_1 (R sc e z X h e1).pe
theorem lc_ok {rec : Scope → Expr → Option CE} (R : Rec g c rec) (h : XOk g c sc X) {elt tg iter : Expr} {ifs : List Expr} {scope : Scope} {pos : Pos} {y : CE}
    (q : stepE c rec sc (.ListComp elt [⟨tg, iter, ifs, 0⟩] scope pos) = some y) : Good g X (.ListComp elt [⟨tg, iter, ifs, 0⟩] scope pos) y := by
  rw [stepE] at q
  split at q
  · rename_i hb
    rw [Bool.and_eq_true, decide_eq_true_eq] at hb
    simp only [Option.bind_eq_some_iff] at q
    obtain ⟨i, e1, t, e2, ss, e3, x, e4, q⟩ := q
    split at q
    · rename_i ht
      cases q
      have ok := own_ok hb.1
      have ok' : BlkOk X.N X.env.scope scope (ownOf c.N scope) := by rw [h.hN, h.hs]; exact ok
      obtain ⟨i1, i2⟩ := it_ok R h e1
      refine good_of (pe_lc' h.calm h.nd i1 ok' (fun s H C cl fp => ?_) (fun s H C cl fp => ?_) (fun s H C cl fp => ?_) i2) (fun _ => rfl) fun i z => nomatch z
      · exact (tg_ok (h.blk s H C cl fp) 40 e2 (blk_hf h ok ht)).1 _ fun i hi => tgIn_sl ht i hi
      · have pr := rec_all R (h.blk s H C cl fp) e3
        cases pr with
        | nil => exact pts_0
        | cons h1 h2 =>
          cases h2 with
          | nil => exact pts_1 h1.pt
          | cons _ _ => exact absurd hb.2 (by simp)
      · exact (R _ elt x _ (h.blk s H C cl fp) e4).pe
    · cases q
  · cases q
theorem step_ok {rec : Scope → Expr → Option CE} (R : Rec g c rec) (h : XOk g c sc X) {e : Expr} {y : CE} (q : stepE c rec sc e = some y) : Good g X e y := by
  have G : ∀ {e : Expr} {x : CE}, rec sc e = some x → Good g X e x := fun {e x} => R sc e x X h
  unfold stepE at q
  split at q
  · simp only [Option.map_eq_some_iff] at q
    obtain ⟨d, e1, rfl⟩ := q
    exact const_ok e1
  · exact name_ok h q
  · simp only [Option.bind_eq_some_iff, Option.map_eq_some_iff] at q
    obtain ⟨o, e0, x, e1, z, e2, rfl⟩ := q
    have := opB_of e0
    subst this
    exact good_of (pe_bin' (G e1).ar (G e2).ar) (fun _ => rfl) fun i z => nomatch z
  · simp only [Option.map_eq_some_iff] at q
    obtain ⟨x, e1, rfl⟩ := q
    exact good_of (pe_neg' (G e1).pe) (fun _ => rfl) fun i z => nomatch z
  · simp only [Option.map_eq_some_iff] at q
    obtain ⟨x, e1, rfl⟩ := q
    exact ⟨pe_not' (G e1).pe, pt_not' (G e1).pt, fun i z => nomatch z⟩
  · rename_i op a b es pos
    simp only [Option.bind_eq_some_iff] at q
    obtain ⟨xs, e1, e2⟩ := q
    have pr := rec_all R h e1
    cases pr with
    | cons h1 h2 =>
      cases h2 with
      | cons h3 h4 =>
        obtain ⟨p1, p2⟩ := bool_ok (pos := pos) h1 (.cons h3 h4) e2
        refine ⟨p1, p2.pt, fun i z => ?_⟩
        subst z
        exfalso
        cases op <;> (simp only [cBool, Option.map_eq_some_iff] at e2; obtain ⟨_, _, e3⟩ := e2; cases e3)
  · split at q
    · cases q
    · rename_i hm
      simp only [Option.bind_eq_some_iff, Option.map_eq_some_iff] at q
      obtain ⟨x, e1, z, e2, rfl⟩ := q
      have hm' := Bool.not_eq_true _ ▸ hm
      exact ⟨pe_cmp' (op_cmp h.un _) (G e1).ar (G e2).ar (by simpa using hm), pt_cmp' (op_cmp h.un _) (G e1).ar (G e2).ar (by simpa using hm), fun i z => nomatch z⟩
  · split at q
    · cases q
    · rename_i hm
      simp only [Option.bind_eq_some_iff, Option.map_eq_some_iff] at q
      obtain ⟨x, e1, z, e2, w, e3, rfl⟩ := q
      exact ⟨pe_chn' (op_cmp h.un _) (op_cmp h.un _) (G e1).pe (G e2).pe (G e3).pe (by simpa using hm), pt_chn' (op_cmp h.un _) (op_cmp h.un _) (G e1).pe (G e2).pe (G e3).pe (by simpa using hm), fun i z => nomatch z⟩
  · simp only [Option.bind_eq_some_iff, Option.map_eq_some_iff] at q
    obtain ⟨x, e1, z, e2, w, e3, rfl⟩ := q
    exact ⟨pe_ife' (G e1).pt (G e2).pe (G e3).pe, pt_ife' (G e1).pt (G e2).pt (G e3).pt, fun i z => nomatch z⟩
  · split at q
    · rename_i hc
      rw [Bool.and_eq_true, decide_eq_true_eq] at hc
      simp only [Option.map_eq_some_iff] at q
      obtain ⟨xs, e1, rfl⟩ := q
      have pr := rec_all R h e1
      have l := goods_len pr
      exact good_of (pe_tup' (rows_v (goods_pe pr) hc.1) (by omega)) (fun _ => rfl) fun i z => nomatch z
    · cases q
  · split at q
    · rename_i hc
      rw [Bool.and_eq_true, decide_eq_true_eq] at hc
      simp only [Option.map_eq_some_iff] at q
      obtain ⟨xs, e1, rfl⟩ := q
      have pr := rec_all R h e1
      have l := goods_len pr
      exact good_of (pe_lst' (rows_v (goods_pe pr) hc.1) (by omega)) (fun _ => rfl) fun i z => nomatch z
    · cases q
  · split at q
    · rename_i hc
      rw [Bool.and_eq_true, decide_eq_true_eq, decide_eq_true_eq] at hc
      simp only [Option.bind_eq_some_iff, Option.map_eq_some_iff] at q
      obtain ⟨xs, e1, ys, e2, rfl⟩ := q
      exact good_of (pe_dct' hc.1 hc.2 e1 (goods_pe (rec_all R h e2))) (fun _ => rfl) fun i z => nomatch z
    · cases q
  · simp only [Option.bind_eq_some_iff, Option.map_eq_some_iff] at q
    obtain ⟨x, e1, i, e2, j, e3, rfl⟩ := q
    exact good_of (pe_slc' sl_any (G e1).ar (opt_ok R h e2) (opt_ok R h e3)) (fun _ => rfl) fun i z => nomatch z
  · simp only [Option.map_eq_some_iff] at q
    obtain ⟨x, e1, rfl⟩ := q
    exact good_of (pe_rev' (G e1).ar) (fun _ => rfl) fun i z => nomatch z
  · cases q
  · rename_i a b pos hn1 _ hn2
    simp only [Option.bind_eq_some_iff, Option.map_eq_some_iff] at q
    obtain ⟨x, e1, z, e2, rfl⟩ := q
    refine good_of (pe_idx' (ix_any h.un) (G e1).ar (G e2).pe ?_) (fun _ => rfl) fun i z => nomatch z
    intro o i
    cases b with
    | Slice lo hi st p =>
      cases st with
      | none => exact absurd rfl (hn1 _ _ _)
      | some s => exact absurd rfl (hn2 _ _ _ _)
    | _ => rfl
  · exact lc_ok R h q
  · exact cal_ok R h q
  · split at q
    · rename_i hc
      rw [Bool.and_eq_true] at hc
      exact mth_ok R h q hc.1 hc.2
    · cases q
  · cases q
theorem cE_ok : ∀ n : Nat, Rec g c (cE n c)
  | 0 => fun sc e x X h q => by cases q
  | n + 1 => fun sc e x X h q => step_ok (cE_ok n) h q
end
end Mp
end

/-! ## MpSound5 -/
section
set_option linter.all false
set_option maxRecDepth 100000
namespace Mp
open PySem PySem.Spec PyProof.Rows L2
section
variable {g : Ga} {c : Ct} {sc : Scope} {X : Cx} {pn : List Nat}
theorem swap_no {e : Expr} (h : isLc e = false) {t : Option Expr} {n : Nat} {env : Env} : swapsWith e t n env = pure false := by
  cases e <;> first | rfl | cases h
theorem stores_no {ts : List Expr} {k : Nat} {p : Pos} {e : Expr} {env : Env} (h : ∀ vs k p, e ≠ .Tuple vs k p) : swappedStores [.Tuple ts k p] e env = pure none := by
  cases e <;> first | exact absurd rfl (h _ _ _) | rfl
theorem stores_sub {o i e : Expr} {p : Pos} {env : Env} : swappedStores [.Subscript o i p] e env = pure none := by
  cases e <;> rfl
theorem names_ok (h : XOk g c sc X) (hf : ∀ x, X.fn x = true) : ∀ {ts : List Expr} {is : List Nat}, namesOf c sc ts = some is → Nms X ts is
  | [], is, q => by
    cases q
    exact .nil
  | .Name x p :: ts, is, q => by
    simp only [namesOf, Option.bind_eq_some_iff, Option.map_eq_some_iff] at q
    obtain ⟨i, e1, js, e2, rfl⟩ := q
    obtain ⟨h1, h2⟩ := slotW_ok h e1
    exact .cons h1 h2 (.inl (hf x)) (names_ok h hf e2)
theorem nm_len : ∀ {ts : List Expr} {is : List Nat}, Nms X ts is → (nmOf ts).length = ts.length
  | _, _, .nil => rfl
  | _, _, .cons _ _ _ h => congrArg Nat.succ (nm_len h)
/-- names that stand among the targets of a swap are all of them -/
theorem filt_all {f : Expr → Option Str} (hf : ∀ y p, f (.Name y p) = some y ∨ f (.Name y p) = none) : ∀ {ts : List Expr} {is : List Nat}, Nms X ts is → (ts.filterMap f).length = ts.length → ts.filterMap f = nmOf ts
  | _, _, .nil, _ => rfl
  | _, _, .cons (y := y) (p := p) (ts := ts) _ _ _ h, hl => by
    rcases hf y p with e | e
    · rw [List.filterMap_cons_some e] at hl ⊢
      rw [filt_all hf h (by simpa using hl)]
      rfl
    · rw [List.filterMap_cons_none e] at hl
      have := List.length_filterMap_le f ts
      rw [List.length_cons] at hl
      omega
theorem stores_par {ts vs : List Expr} {is : List Nat} {kt k2 : Nat} {pt pt2 : Pos} {env : Env} (nm : Nms X ts is) (hs : swB vs = true) : swappedStores [.Tuple ts kt pt] (.Tuple vs k2 pt2) env = pure none ∨ swappedStores [.Tuple ts kt pt] (.Tuple vs k2 pt2) env = pure (some (nmOf ts)) := by
  unfold swappedStores
  simp only
  split
  · exact .inl rfl
  · split
    · exact .inl rfl
    · split
      · exact .inl rfl
      · rename_i hnm
        split
        · exact .inl rfl
        · split
          · rename_i h1 h2
            unfold swB at hs
            simp only [Bool.or_eq_true, Bool.not_eq_true'] at hs
            rcases hs with z | z
            · exact absurd z h1
            · rw [h2] at z
              cases z
          · refine .inr ?_
            simp only [Bool.or_eq_true, not_or, bne_iff_ne, ne_eq, Classical.not_not] at hnm
            have := filt_all (X := X) (f := fun
              | .Name id pos => if env.kindOf id == some .local && pos.line == (ts.head?.map (·.pos.line)).getD 0 then some id else none
              | _ => none) (fun y p => by
              show (if _ then some y else none) = some y ∨ _
              by_cases c : (env.kindOf y == some .local && p.line == (ts.head?.map (·.pos.line)).getD 0) = true
              · rw [if_pos c]
                exact .inl rfl
              · exact .inr (if_neg c)) nm hnm.1
            rw [← this]
            rfl
end
end Mp
end

/-! ## MpSound6 -/
section
set_option linter.all false
set_option maxRecDepth 100000
namespace Mp
open PySem PySem.Spec PyProof.Rows L2
section
variable {g : Ga} {c : Ct} {sc : Scope} {X : Cx} {pn : List Nat}
theorem asg_fin {K : PySem.W.Frag} {D : Ends} {σ : L2.St} {H : Hp} {i : Nat} {y : CE} {F : Addr → Prop} {r r' : En} {fl : Fl} (re : RE K F H r σ) (li : i < σ.length) (h : ex g pn (.asg (.nm i) y) r = some (fl, r'))
    (k : Fin K pn D F H r σ fl r') : TD K (ev g y) σ H fun v H1 => gName i v σ H1 D.nx := by
  rw [ex] at h
  split at h
  · cases h
  · rename_i np
    simp only [Option.bind_eq_bind, Option.bind_eq_some_iff, Prod.exists] at h
    obtain ⟨o, r1, h1, h2⟩ := h
    cases h2
    refine ⟨F, r, o, r1, re, h1, fun v H1 F1 g1 rr => ?_⟩
    exact k _ H1 F1 ((g1.wide fun _ z => z.elim).store (by simpa [Wn] using np) li rr.1 rr.2)
/-- name = [..] -/
theorem lc_asg {rec : Scope → Expr → Option CE} (R : Rec g c rec) (h : XOk g c sc X) (hf : ∀ x, X.fn x = true) {x : Str} {i : Nat} {elt tg iter : Expr} {ifs : List Expr} {scope : Scope} {pos spos pos' : Pos} {y : CE} (hi : slotW c sc x = some i)
    (q : stepE c rec sc (.ListComp elt [⟨tg, iter, ifs, 0⟩] scope pos) = some y) : PS X (.Assign [.Name x pos'] (.ListComp elt [⟨tg, iter, ifs, 0⟩] scope pos) spos) (TSm X.K pn (ex g pn (.asg (.nm i) y))) := by
  obtain ⟨h1, h2⟩ := slotW_ok h hi
  have good := lc_ok R h q
  have key : ∀ b : Bool, (X.env.blockKind == .function && X.env.kindOf x == some .local && pos'.line == pos.line && !(scope.names.any fun (n, k) => n == x && (k == .local || k == .cell))) = b →
      PS X (.Assign [.Name x pos'] (.ListComp elt [⟨tg, iter, ifs, 0⟩] scope pos) spos) (TSm X.K pn (ex g pn (.asg (.nm i) y))) := fun b hb => by
    have hsw : swapsWith (.ListComp elt [⟨tg, iter, ifs, 0⟩] scope pos) (some (.Name x pos')) spos.line X.env = pure b := by
      rw [← hb]
      rfl
    cases b with
    | false => exact ps_asg1 h.nd h1 h2 (.inl (hf x)) good.pe hsw
    | true =>
      simp only [Bool.and_eq_true] at hb
      have hloc : X.env.scope.names.lookup x = some .local := beq_iff_eq.mp hb.1.1.2
      rw [stepE] at q
      split at q
      · rename_i hbk
        rw [Bool.and_eq_true, decide_eq_true_eq] at hbk
        simp only [Option.bind_eq_some_iff] at q
        obtain ⟨it, e1, t, e2, ss, e3, xx, e4, q⟩ := q
        split at q
        · rename_i ht
          cases q
          have ok := own_ok hbk.1
          have ok' : BlkOk X.N X.env.scope scope (ownOf c.N scope) := by rw [h.hN, h.hs]; exact ok
          obtain ⟨i1, i2⟩ := it_ok R h e1
          refine ⟨fun pins s σ H D I ⟨F, r, fl, r', re, hx, k⟩ => ?_⟩
          have li : i < σ.length := by
            rw [I.len]
            exact (List.getElem?_eq_some_iff.mp h1).1
          refine (ps_setLc h.calm h.nd h1 hloc hsw i1 ok' (fun s H C cl fp => ?_) (fun s H C cl fp => ?_) (fun s H C cl fp => ?_) i2).run pins s σ H D I (pe_lc'.lc_to (X := X) (asg_fin re li hx k))
          · exact (tg_ok (h.blk s H C cl fp) 40 e2 (blk_hf h ok ht)).1 _ fun i hi => tgIn_sl ht i hi
          · have pr := rec_all R (h.blk s H C cl fp) e3
            cases pr with
            | nil => exact pts_0
            | cons h1 h2 =>
              cases h2 with
              | nil => exact pts_1 h1.pt
              | cons _ _ => exact absurd hbk.2 (by simp)
          · exact (R _ elt xx _ (h.blk s H C cl fp) e4).pe
        · cases q
      · cases q
  exact key _ rfl
end
end Mp
end

/-! ## MpSound7 -/
section
set_option linter.all false
set_option maxRecDepth 100000
namespace Mp
open PySem PySem.Spec PyProof.Rows L2
section
variable {g : Ga} {c : Ct} {sc : Scope} {X : Cx} {pn : List Nat}
theorem lc_or (e : Expr) : isLc e = false ∨ ((∃ elt tg iter ifs scope pos, e = .ListComp elt [⟨tg, iter, ifs, 0⟩] scope pos) ∨ ∀ rec, stepE c rec sc e = none) := by
  cases e <;> first | exact .inl rfl | skip
  case ListComp elt gs scope pos =>
    refine .inr ?_
    match gs with
    | [] => exact .inr fun _ => rfl
    | [⟨tg, iter, ifs, .ofNat 0⟩] => exact .inl ⟨elt, tg, iter, ifs, scope, pos, rfl⟩
    | [⟨tg, iter, ifs, .ofNat (n + 1)⟩] => exact .inr fun _ => rfl
    | [⟨tg, iter, ifs, .negSucc n⟩] => exact .inr fun _ => rfl
    | ⟨_, _, _, .ofNat 0⟩ :: _ :: _ => exact .inr fun _ => rfl
    | ⟨_, _, _, .ofNat (n + 1)⟩ :: _ :: _ => exact .inr fun _ => rfl
    | ⟨_, _, _, .negSucc n⟩ :: _ :: _ => exact .inr fun _ => rfl
  case SetComp => exact .inr (.inr fun _ => rfl)
  case DictComp => exact .inr (.inr fun _ => rfl)
theorem sole_no {t e : Expr} (h : isLc e = false) {n : Nat} {env : Env} : swapsWithSole [t] e n env = pure false := swap_no (t := some t) (n := n) (env := env) h
theorem asg_ok (h : XOk g c sc X) (hf : ∀ x, X.fn x = true) {n : Nat} {x : Str} {i : Nat} {e : Expr} {y : CE} {pos pos' : Pos} (hi : slotW c sc x = some i) (q : cE (n + 1) c sc e = some y) :
    PS X (.Assign [.Name x pos'] e pos) (TSm X.K pn (ex g pn (.asg (.nm i) y))) := by
  obtain ⟨h1, h2⟩ := slotW_ok h hi
  rcases lc_or (c := c) (sc := sc) e with hc | ⟨elt, tg, iter, ifs, scope, p, rfl⟩ | hn
  · exact ps_asg1 h.nd h1 h2 (.inl (hf x)) (cE_ok _ sc e y X h q).pe (swap_no hc)
  · exact lc_asg (cE_ok n) h hf hi q
  · have q' : stepE c (cE n c) sc e = some y := q
    rw [hn] at q'
    cases q'
/-- what recS makes of statements is sound -/
def RecS (g : Ga) (c : Ct) (sc : Scope) (X : Cx) (pn : List Nat) (recS : Stmt → Option CS) : Prop := ∀ s y, recS s = some y → PS X s (TSm X.K pn (ex g pn y))
theorem recS_all {recS : Stmt → Option CS} (R : RecS g c sc X pn recS) {ss : List Stmt} {xs : List CS} (e : mapO recS ss = some xs) : PSs X ss (TSm X.K pn (exs g pn xs)) := by
  have := mapO_all e
  clear e
  induction this with
  | nil => exact pss_0
  | cons h1 _ ih => exact pss_1 (R _ _ h1) ih
theorem ret_ok (h : XOk g c sc X) {e : Expr} {y : CE} {pos : Pos} (he : Good g X e y) : PS X (.Return (some e) pos) (TSm X.K pn (ex g pn (.ret (some y)))) := by
  by_cases hx : ∃ i, y = .nm i
  · obtain ⟨i, rfl⟩ := hx
    exact ps_ret2 (he.nm i rfl)
  · exact ps_ret1 he.pe fun i z => hx ⟨i, z⟩
theorem stepS_ok (h : XOk g c sc X) (hf : ∀ x, X.fn x = true) {recS : Stmt → Option CS} (R : RecS g c sc X pn recS) {n : Nat} {s : Stmt} {y : CS} (q : stepS c (cE (n + 1) c) recS sc s = some y) : PS X s (TSm X.K pn (ex g pn y)) := by
  have G : ∀ {e : Expr} {x : CE}, cE (n + 1) c sc e = some x → Good g X e x := fun {e x} q => cE_ok _ sc e x X h q
  have hfF : ∀ is, Hf X is := fun is i _ x _ _ => .inl (hf x)
  unfold stepS at q
  split at q
  · simp only [Option.bind_eq_some_iff, Option.map_eq_some_iff] at q
    obtain ⟨i, e1, z, e2, rfl⟩ := q
    exact asg_ok h hf e1 e2
  · split at q
    · rename_i hc
      simp only [Bool.and_eq_true, decide_eq_true_eq] at hc
      obtain ⟨⟨l1, ns⟩, sw, l2⟩ := hc
      simp only [Option.bind_eq_some_iff, Option.map_eq_some_iff] at q
      obtain ⟨is, e1, xs, e2, rfl⟩ := q
      have pr := rec_all (cE_ok (n + 1)) h e2
      have ln := goods_len pr
      have nm := names_ok h hf e1
      exact ps_par' h.calm h.nd nm (rows_o pr ns) (by omega) (stores_par nm sw)
    · cases q
  · rename_i ts k p e pos hnt
    split at q
    · cases q
    · rename_i hc
      simp only [Option.bind_eq_some_iff, Option.map_eq_some_iff] at q
      obtain ⟨t, e1, z, e2, rfl⟩ := q
      obtain ⟨b1, b2, b3⟩ := tgs_of (fun {e t} => tg_ok h 40) (mapO_all e1) (hfF _)
      exact ps_tg (G e2).pe (fun W hW => pg_tp h.calm (b1 W hW) b2 b3) (sole_no (by simpa using hc)) (stores_no fun vs k p z => hnt vs k p z) rfl
  · rename_i x xp es k tp sp e pos
    split at q
    · cases q
    · rename_i hc
      simp only [Bool.or_eq_true, not_or, Bool.not_eq_true', Bool.not_eq_false, Bool.and_eq_true, decide_eq_true_eq, Bool.not_eq_true] at hc
      obtain ⟨hc, ns, l1⟩ := hc
      simp only [Option.bind_eq_some_iff, Option.map_eq_some_iff] at q
      obtain ⟨i, e0, xs, e1, z, e2, rfl⟩ := q
      have pr := rec_all (cE_ok (n + 1)) h e1
      have ln := goods_len pr
      exact ps_sti2 (var_ok h e0) (G e2).pe (rows_v (goods_pe pr) ns) (by omega) (by have := h.un; omega) (fun _ => rfl) (sole_no hc) stores_sub
  · cases q
  · rename_i x xp ie sp e pos hn1 hn2
    split at q
    · cases q
    · rename_i hc
      simp only [Option.bind_eq_some_iff] at q
      obtain ⟨i, e0, j, e1, q⟩ := q
      split at q
      · rename_i hj
        simp only [Option.map_eq_some_iff] at q
        obtain ⟨z, e2, rfl⟩ := q
        refine ps_sti1 (var_ok h e0) (G e2).pe (G e1).pe (fun es z => ?_) (by have := h.un; omega) (fun _ => ?_) (sole_no (by simpa using hc)) stores_sub
        · subst z
          cases hj
        · cases ie <;> first | rfl | exact absurd rfl (hn2 _ _ _ _)
      · cases q
  · cases q
    exact ps_pas ps_doc
  · rename_i e pos hns
    split at q
    · cases q
    · rename_i hc
      simp only [Option.map_eq_some_iff] at q
      obtain ⟨z, e1, rfl⟩ := q
      exact ps_exp (G e1).pe (swap_no (by simpa using hc))
  · cases q
    exact ps_ret0
  · simp only [Option.map_eq_some_iff] at q
    obtain ⟨z, e1, rfl⟩ := q
    exact ret_ok h (G e1)
  · simp only [Option.bind_eq_some_iff, Option.map_eq_some_iff] at q
    obtain ⟨x, e1, a, e2, b, e3, rfl⟩ := q
    exact ps_if' (G e1).pt (recS_all R e2) (recS_all R e3)
  · simp only [Option.bind_eq_some_iff, Option.map_eq_some_iff] at q
    obtain ⟨t, e1, i, e2, b, e3, rfl⟩ := q
    obtain ⟨i1, i2⟩ := it_ok (cE_ok (n + 1)) h e2
    exact ps_for' h.po h.calm i1 (tg_ok h 40 e1 (hfF _)).1 (recS_all R e3) i2
  · simp only [Option.bind_eq_some_iff, Option.map_eq_some_iff] at q
    obtain ⟨x, e1, b, e2, rfl⟩ := q
    exact ps_whl h.po (G e1).pt (recS_all R e2)
  · cases q
    exact ps_brk
  · cases q
    exact ps_cnt
  · cases q
    exact ps_pas ps_pass
  · cases q
    exact ps_nev
  · cases q
theorem cS_ok (h : XOk g c sc X) (hf : ∀ x, X.fn x = true) : ∀ n : Nat, RecS g c sc X pn (cS n c sc)
  | 0 => fun s y q => by cases q
  | n + 1 => fun s y q => stepS_ok (n := 39) h hf (cS_ok h hf n) q
theorem cB_ok (h : XOk g c sc X) (hf : ∀ x, X.fn x = true) {b : List Stmt} {cs : List CS} (q : cB c sc b = some cs) : PSs X b (TSm X.K pn (exs g pn cs)) := recS_all (cS_ok h hf 40) q
end
end Mp
end

/-! ## MpMod -/
section
set_option linter.all false
set_option maxRecDepth 100000
/-! Mp: all defs of a module, by the depth of calls. -/
namespace Mp
open PySem PySem.Spec PyProof.Rows L2
/-- the tables of a module -/
structure Tb where
  gl : List (Str × D)
  fn : List (Str × Sg)
  cls : List Str
  fns : List Fd
def Tb.ct (T : Tb) (N : List Str) : Ct := ⟨N, T.gl, T.fn, T.cls⟩
section
variable (P : Program) (w : World) (K : PySem.W.Frag) (mg : Str → Option Value) (base : Heap) (T : Tb)
/-- what is known of one def -/
structure FnFact (nm : Str) (sg : Sg) (f : Addr) (fd : FuncData) (ps : List Str) : Prop where
  ex : ∃ (N : List Str) (qual : Str) (params : Arguments) (body : List Stmt) (scope : Scope) (dvs : List V) (kws : List (Str × V)) (cs : List CS),
    FunD K nm qual params body scope dvs kws f fd ∧ FnScope N ps scope ∧ T.fns[sg.ix]? = some ⟨ps.length, N.length, cs⟩ ∧ cB (T.ct N) scope body = some cs
  mg : mg nm = some (.ref f)
  kp : PySem.W.keepIn K (.ref f) = true
  bd : ∀ n, (n, ([] : List Str)) ∈ sg.pats → ∀ sel, selOf sg n = some sel → ∃ ds dvs dd, Binds K fd ps ds ∧ Vals dvs ds ∧ selK [] sel = some dd ∧ (∀ F H, RvA K F H dvs dd) ∧ n + dd.length = ps.length
structure ModFacts : Prop where
  gl : ∀ x d, T.gl.lookup x = some d → ∃ v u, mg x = some u ∧ RelV v u ∧ ∀ F H, Rv K F H v d
  bl : ∀ x ∈ bltNames, T.gl.lookup x = none → T.fn.lookup x = none → T.cls.contains x = false → mg x = none
  fn : ∀ nm sg, T.fn.lookup nm = some sg → ∃ f fd ps, FnFact K mg T nm sg f fd ps
end
section
variable {P : Program} {w : World} {K : PySem.W.Frag} {mg : Str → Option Value} {base : Heap} {T : Tb}
theorem fn_ok (M : ModFacts K mg T) : ∀ (n : Nat) {nm : Str} {sg : Sg} {f : Addr} {fd : FuncData} {ps : List Str}, FnFact K mg T nm sg f fd ps → FnOk P w K mg base CX0 n f fd ps (spOf K ps.length (callD T.fns n sg.ix))
  | 0, nm, sg, f, fd, ps, F => ⟨fun vs H Q E h => h.1, fun A outer s H args us vs Q E _ _ _ _ h => by
      obtain ⟨_, F, os, o, os', _, h, _⟩ := h
      cases h⟩
  | n + 1, nm, sg, f, fd, ps, F => by
    have ih := fun {nm : Str} {sg : Sg} {f : Addr} {fd : FuncData} {ps : List Str} => @fn_ok M n nm sg f fd ps
    obtain ⟨N, qual, params, body, scope, dvs, kws, cs, h1, h2, h3, h4⟩ := F.ex
    refine h1.ok h2 (fun vs H Q E h => h.1) fun cdv A outer s H vs Q E hr hsp => ?_
    obtain ⟨hl, F0, os, o, os', re, hs, k⟩ := hsp
    have hs' : runF (callD T.fns n) ⟨ps.length, N.length, cs⟩ os = some (o, os') := by
      rw [callD, h3] at hs
      exact hs
    refine ⟨TSm K (ownIx os 0) (exs (callD T.fns n) (ownIx os 0) cs), ?_, body_end re hs' rfl k⟩
    refine PSs.nox ?_
    refine cB_ok (X := (cxOf CX0 P w K mg base N qual scope f cdv A outer s H E).nox) (c := T.ct N) (sc := scope) ⟨rfl, h2.nd, rfl, rfl, ?_, M.gl, M.bl, PassesOwn.never, fun nm' sg' hlk => ?_⟩ (fun _ => rfl) h4
    · have := hr.un
      show (A.deeper (envOfC qual scope s.heap.objs.size f cdv)).units + 70 < cLine
      omega
    · obtain ⟨f', fd', ps', F'⟩ := M.fn nm' sg' hlk
      exact ⟨n, f', fd', ps', ps'.length, ih F', hr, F'.mg, F'.kp, F'.bd⟩
end
end Mp
end

/-! ## MpBind -/
section
set_option linter.all false
set_option maxRecDepth 100000
namespace Mp
open PySem PySem.Spec PyProof.Rows L2
theorem zip_lookup {α : Type} : ∀ (ps : List Str) (us : List α) (n : Str), ps.length ≤ us.length → n ∈ ps → ((ps.zip us).lookup n).isNone = false
  | [], _, _, _, h => by cases h
  | p :: ps, [], _, h, _ => by simp at h
  | p :: ps, u :: us, n, h, m => by
    rw [List.zip_cons_cons, List.lookup_cons]
    cases q : n == p with
    | true => rfl
    | false =>
      rcases List.mem_cons.mp m with rfl | m
      · simp at q
      · exact zip_lookup ps us n (by simpa using h) m
theorem filterMap_same {α β : Type} {f g : α → Option β} : ∀ {l : List α}, (∀ x ∈ l, f x = g x) → l.filterMap f = l.filterMap g
  | [], _ => rfl
  | x :: l, h => by
    rw [List.filterMap_cons, List.filterMap_cons, h x List.mem_cons_self, filterMap_same fun y hy => h y (List.mem_cons_of_mem _ hy)]
theorem zip_filterMap {α : Type} : ∀ (ps : List Str) (us : List α), ps.Nodup → us.length = ps.length → ps.filterMap (fun n => ((ps.zip us).lookup n).map fun v => (n, v)) = ps.zip us
  | [], _, _, _ => by simp
  | p :: ps, [], _, h => by simp at h
  | p :: ps, u :: us, nd, h => by
    rw [List.nodup_cons] at nd
    have ih := zip_filterMap ps us nd.2 (by simpa using h)
    rw [List.filterMap_cons, List.zip_cons_cons, List.lookup_cons]
    simp only [beq_self_eq_true, Option.map_some]
    refine congrArg ((p, u) :: ·) (Eq.trans (filterMap_same fun n hn => ?_) ih)
    rw [List.lookup_cons]
    have : (n == p) = false := by
      cases q : n == p with
      | false => rfl
      | true =>
        rw [eq_of_beq q] at hn
        exact absurd hn nd.1
    rw [this]
theorem bind_plain {x qual : Str} {A : List Arg} {kd : List (Option Expr)} {df : List Expr} {body : List Stmt} {scope : Scope} {kV doc pm cdv ct : Value} {an : Option Addr} {us : List Value} (hl : us.length = A.length) (nd : (A.map (·.arg)).Nodup) :
    bindArgs (PySem.W.fnOf x qual ⟨[], A, none, [], kd, none, df⟩ body scope .none kV doc pm an cdv ct) ⟨us, []⟩ = pure ((A.map (·.arg)).zip us) := by
  have e1 : ∀ n ∈ A.map (·.arg), (((A.map (·.arg)).zip us).lookup n).isNone = false := fun n hn => zip_lookup _ _ n (by rw [List.length_map]; omega) hn
  have e2 : ((A.map (·.arg)).filter fun n => (((A.map (·.arg)).zip us).lookup n).isNone) = [] := List.filter_eq_nil_iff.mpr fun n hn => by rw [e1 n hn]; exact Bool.false_ne_true
  have e3 : (A.map (·.arg)).filterMap (fun n => (((A.map (·.arg)).zip us).lookup n).map fun v => (n, v)) = (A.map (·.arg)).zip us := zip_filterMap _ _ nd (by rw [List.length_map]; exact hl)
  unfold bindArgs
  have hq : seqItems? (.none : Value) = pure none := rfl
  simp only [List.map_nil, List.nil_append, List.forIn_nil, pure_bind, hq, Option.getD_none, List.append_nil, List.length_map]
  have ng : ¬ (us.length > A.length) := by omega
  simp [ng, e2, e3, hl]
  have e4 : (A.filterMap ((fun n => ((((A.map (·.arg)).zip us).lookup n).map fun v => (n, v))) ∘ fun x => x.arg)) = (A.map (·.arg)).zip us := by
    rw [← List.filterMap_map]
    exact e3
  rw [if_neg, e4]
  have e5 : List.take (A.length - (List.drop (0 - A.length) ([] : List Value)).length) (A.map (·.arg)) = A.map (·.arg) := List.take_of_length_le (by simp)
  rw [e5, e2]
  exact Bool.false_ne_true
end Mp
end

/-! ## MpHead -/
section
set_option linter.all false
set_option maxRecDepth 100000
/-! Mp: a law's text: its tables, what the head tells of them. -/
namespace Mp
open PySem PySem.Spec PyProof.Rows L2
/-! ### a constant of the module -/
mutual
def rdB (K : PySem.W.Frag) : Value → D → Bool
  | u, .none => (match u with | .none => true | _ => false)
  | u, .bool b => (match u with | .bool c => b == c | _ => false)
  | u, .int i => (match u with | .int j _ => decide (i = j) | _ => false)
  | u, .str s => (match u with | .str z _ => decide (s = z) && (PyData.strOk s && decide (s.length ≤ SZ)) | _ => false)
  | u, .tuple ds => (match u with
    | .ref a => (match K.lookup a with
      | some ⟨.type c, _, .seq its _, _⟩ => decide (c = "tuple") && (decide (its.size ≤ sizeLine) && rdAll K its.toList ds)
      | _ => false)
    | _ => false)
  | _, _ => false
def rdAll (K : PySem.W.Frag) : List Value → List D → Bool
  | [], [] => true
  | u :: us, d :: ds => rdB K u d && rdAll K us ds
  | _, _ => false
end
mutual
theorem rdB_ok {K : PySem.W.Frag} : ∀ (u : Value) (d : D), rdB K u d = true → ∃ v, RelV v u ∧ ∀ F H, Rv K F H v d
  | u, .none, h => by
    cases u with
    | none => exact ⟨.non, rfl, fun _ _ => .non⟩
    | _ => simp [rdB] at h
  | u, .bool b, h => by
    cases u with
    | bool c =>
      simp [rdB] at h
      subst h
      exact ⟨.bl b, rfl, fun _ _ => .bl b⟩
    | _ => simp [rdB] at h
  | u, .int i, h => by
    cases u with
    | int j t =>
      simp [rdB] at h
      subst h
      exact ⟨.int i, ⟨t, rfl⟩, fun _ _ => .int i⟩
    | _ => simp [rdB] at h
  | u, .str s, h => by
    cases u with
    | str z t =>
      simp [rdB] at h
      obtain ⟨rfl, h1, h2⟩ := h
      exact ⟨.str s, ⟨t, rfl⟩, fun _ _ => .str s h1 h2⟩
    | _ => simp [rdB] at h
  | u, .tuple ds, h => by
    cases u with
    | ref a =>
      rw [rdB] at h
      split at h
      · rename_i c x its n y q
        simp only [Bool.and_eq_true, decide_eq_true_eq] at h
        obtain ⟨rfl, h2, h3⟩ := h
        obtain ⟨vs, r1, r2⟩ := rdAll_ok its.toList ds h3
        refine ⟨.ref a, rfl, fun F H => .tup (.inr ⟨_, its, n, q, rfl, rfl, h2, r1⟩) ?_ (r2 F H)⟩
        rw [r1.length, Array.length_toList, SZ_eq]
        exact h2
      · cases h
    | _ => simp [rdB] at h
  | u, .list ds, h => by simp [rdB] at h
  | u, .dict ds, h => by simp [rdB] at h
theorem rdAll_ok {K : PySem.W.Frag} : ∀ (us : List Value) (ds : List D), rdAll K us ds = true → ∃ vs, Vals vs us ∧ ∀ F H, RvA K F H vs ds
  | [], [], _ => ⟨[], .nil, fun _ _ => .nil⟩
  | [], _ :: _, h => by simp [rdAll] at h
  | _ :: _, [], h => by simp [rdAll] at h
  | u :: us, d :: ds, h => by
    simp only [rdAll, Bool.and_eq_true] at h
    obtain ⟨v, r1, r2⟩ := rdB_ok u d h.1
    obtain ⟨vs, r3, r4⟩ := rdAll_ok us ds h.2
    exact ⟨v :: vs, .cons r1 r3, fun F H => .cons (r2 F H) (r4 F H)⟩
end
/-! ### a def's row in the tables -/
structure Dn where
  nm : Str
  tp : Nat
  N : List Str
  sg : Sg
  dfl : List He.Dv
  kwd : List (Str × He.Dv)
  fd : Fd
abbrev stAt (P : Program) (i : Nat) : Stmt := P.main.body.getD i (.Pass ⟨0, 0, 0, 0⟩)
def Dn.dd (P : Program) (d : Dn) : He.DefD := ⟨(d.nm, none), d.nm, d.nm, defArgs (stAt P d.tp), defBody (stAt P d.tp), defScope (stAt P d.tp), d.dfl, d.kwd⟩
def argB (a : Arguments) (ps : List Str) : Bool := a.posonlyargs.isEmpty && (a.vararg.isNone && (a.kwonlyargs.isEmpty && (a.kwarg.isNone && decide (a.args.map (·.arg) = ps))))
/-- what is to be seen of a def in the text alone -/
def dnB (P : Program) (d : Dn) : Bool :=
  let sc := defScope (stAt P d.tp)
  decide (sc.kind = .function) && (!sc.isCoroutine && (!sc.isGenerator && (decide d.N.Nodup && (decide (d.N.take d.sg.ps.length = d.sg.ps) && ((d.sg.ps.all fun x => decide (sc.names.lookup x = some .local) || decide (sc.names.lookup x = some .cell)) &&
    ((sc.names.all fun y => !decide (y.2 = .free)) && (decide (d.fd.np = d.sg.ps.length) && (decide (d.fd.ns = d.N.length) &&
    (!(d.dfl.isEmpty && d.kwd.isEmpty) || (argB (defArgs (stAt P d.tp)) d.sg.ps && d.sg.pats.all fun p => decide (p.2 ≠ []) || decide (p.1 = d.sg.ps.length)))))))))))
theorem dnB_scope {P : Program} {d : Dn} (h : dnB P d = true) : FnScope d.N d.sg.ps (defScope (stAt P d.tp)) ∧ d.fd.np = d.sg.ps.length ∧ d.fd.ns = d.N.length ∧
    (d.dfl = [] → d.kwd = [] → argB (defArgs (stAt P d.tp)) d.sg.ps = true ∧ ∀ n, (n, ([] : List Str)) ∈ d.sg.pats → n = d.sg.ps.length) := by
  unfold dnB at h
  simp only [Bool.and_eq_true, decide_eq_true_eq] at h
  obtain ⟨h1, h2, h3, h4, h5, h6, h7, h8, h9, h10⟩ := h
  refine ⟨⟨h1, by simpa using h2, by simpa using h3, h4, h5, fun x hx => ?_, fun y hy => ?_⟩, h8, h9, fun e1 e2 => ?_⟩
  · have := List.all_eq_true.mp h6 x hx
    simpa using this
  · have := List.all_eq_true.mp h7 y hy
    simpa using this
  · rw [e1, e2] at h10
    simp only [List.isEmpty_nil, Bool.and_self, Bool.not_true, Bool.false_or, Bool.and_eq_true] at h10
    refine ⟨h10.1, fun n hn => ?_⟩
    have := List.all_eq_true.mp h10.2 _ hn
    simpa using this
theorem binds_plain {K : PySem.W.Frag} {x qual : Str} {a : Arguments} {ps : List Str} {body : List Stmt} {scope : Scope} {f : Addr} {fd : FuncData} (F : FunD K x qual a body scope [] [] f fd) (h : argB a ps = true) (nd : ps.Nodup) : Binds K fd ps [] := by
  obtain ⟨po, ar, va, ko, kd, kw, df⟩ := a
  unfold argB at h
  simp only [Bool.and_eq_true, decide_eq_true_eq, List.isEmpty_iff, Option.isNone_iff_eq_none] at h
  obtain ⟨rfl, rfl, rfl, rfl, rfl⟩ := h
  exact FunD.bindsN F fun kV doc pm an cdv ct us hl => bind_plain (by simpa using hl) nd
theorem bindsTo_plain {K : PySem.W.Frag} {x qual : Str} {a : Arguments} {ps : List Str} {body : List Stmt} {scope : Scope} {f : Addr} {fd : FuncData} (F : FunD K x qual a body scope [] [] f fd) (h : argB a ps = true) (nd : ps.Nodup) (s : Shared) (us : List Value) (hl : us.length = ps.length) : BindsTo s fd ⟨us, []⟩ (ps.zip us) := by
  obtain ⟨po, ar, va, ko, kd, kw, df⟩ := a
  unfold argB at h
  simp only [Bool.and_eq_true, decide_eq_true_eq, List.isEmpty_iff, Option.isNone_iff_eq_none] at h
  obtain ⟨rfl, rfl, rfl, rfl, rfl⟩ := h
  exact FunD.bindsA F (fun kV doc pm an cdv ct us hl => bind_plain (by simpa using hl) nd) s us hl
/-! ### the tables -/
/-- what is bound of a def with defaults -/
def BdOk (K : PySem.W.Frag) (fd : FuncData) (sg : Sg) : Prop := ∀ n, (n, ([] : List Str)) ∈ sg.pats → ∀ sel, selOf sg n = some sel → ∃ ds dvs dd, Binds K fd sg.ps ds ∧ Vals dvs ds ∧ selK [] sel = some dd ∧ (∀ F H, RvA K F H dvs dd) ∧ n + dd.length = sg.ps.length
structure Law where
  P : Program
  gl : List (Str × D)
  cls : List Str
  ds : List Dn
  fns : List Fd
def Law.tb (L : Law) : Tb := ⟨L.gl, L.ds.map fun d => (d.nm, d.sg), L.cls, L.fns⟩
def Law.fa (L : Law) : List He.Fa := (L.ds.map fun d => He.Fa.glo d.nm) ++ bltNames.map He.Fa.free
def Law.fn (L : Law) : List He.DefD := L.ds.map (Dn.dd L.P)
def Law.ex (L : Law) (K : PySem.W.Frag) : Bool := L.gl.all fun p => match PySem.W.nsIn K mainGlobals p.1 with
  | some (some u) => rdB K u p.2
  | _ => false
/-- what is to be seen in the text alone -/
structure Law.Ok (L : Law) : Prop where
  dn : L.ds.all (dnB L.P) = true
  fns : L.ds.map (fun d => L.fns[d.sg.ix]?) = L.ds.map (fun d => some d.fd)
  cb : L.ds.map (fun d => cB (L.tb.ct d.N) (defScope (stAt L.P d.tp)) (defBody (stAt L.P d.tp))) = L.ds.map (fun d => some d.fd.body)
  bd : ∀ d ∈ L.ds, ¬ (d.dfl = [] ∧ d.kwd = []) → ∀ (K : PySem.W.Frag) (f : Addr) (fd : FuncData), FunD K d.nm d.nm (defArgs (stAt L.P d.tp)) (defBody (stAt L.P d.tp)) (defScope (stAt L.P d.tp)) ((d.dd L.P).dvs K) ((d.dd L.P).kws K) f fd → BdOk K fd d.sg
theorem map_at {α β : Type} {f g : α → β} {l : List α} (h : l.map f = l.map g) {x : α} (hx : x ∈ l) : f x = g x := by
  obtain ⟨i, hi, rfl⟩ := List.getElem_of_mem hx
  have h1 : (l.map f)[i]? = (l.map g)[i]? := by rw [h]
  rw [List.getElem?_map, List.getElem?_map, List.getElem?_eq_getElem hi] at h1
  exact Option.some.inj h1
theorem Law.fact {L : Law} (o : L.Ok) {K : PySem.W.Frag} {h : Heap} {mg : Str → Option Value} (X : K.In h) (G : h.Ns mainGlobals mg) (c : He.SaysD L.fa L.fn K) {d : Dn} (hd : d ∈ L.ds) :
    ∃ f fd, FnFact K mg L.tb d.nm d.sg f fd d.sg.ps ∧ FunD K d.nm d.nm (defArgs (stAt L.P d.tp)) (defBody (stAt L.P d.tp)) (defScope (stAt L.P d.tp)) ((d.dd L.P).dvs K) ((d.dd L.P).kws K) f fd := by
  obtain ⟨h1, h2, h3, h4⟩ := dnB_scope (List.all_eq_true.mp o.dn d hd)
  obtain ⟨fd, F⟩ := He.SaysD.defs c (d := d.dd L.P) (List.mem_map_of_mem hd)
  have hg : mg d.nm = some (.ref (He.ga K d.nm)) := He.glo_ok X G (He.SaysD.facts c (f := .glo d.nm) (List.mem_append_left _ (List.mem_map_of_mem (f := fun d : Dn => He.Fa.glo d.nm) hd)))
  have F' : FunD K d.nm d.nm (defArgs (stAt L.P d.tp)) (defBody (stAt L.P d.tp)) (defScope (stAt L.P d.tp)) ((d.dd L.P).dvs K) ((d.dd L.P).kws K) (He.ga K d.nm) fd := F
  refine ⟨He.ga K d.nm, fd, ⟨⟨d.N, d.nm, _, _, _, _, _, d.fd.body, F', h1, ?_, map_at o.cb hd⟩, hg, F'.kp, ?_⟩, F'⟩
  · show L.fns[d.sg.ix]? = _
    rw [map_at o.fns hd, ← h2, ← h3]
  · by_cases e : d.dfl = [] ∧ d.kwd = []
    · obtain ⟨e1, e2⟩ := e
      obtain ⟨a1, a2⟩ := h4 e1 e2
      have F2 : FunD K d.nm d.nm (defArgs (stAt L.P d.tp)) (defBody (stAt L.P d.tp)) (defScope (stAt L.P d.tp)) [] [] (He.ga K d.nm) fd := by
        have q1 : (d.dd L.P).dvs K = [] := by
          show d.dfl.map _ = []
          rw [e1]
          rfl
        have q2 : (d.dd L.P).kws K = [] := by
          show d.kwd.map _ = []
          rw [e2]
          rfl
        rw [q1, q2] at F'
        exact F'
      intro n hn sel hs
      have en := a2 n hn
      subst en
      have es : sel = [] := by
        unfold selOf at hs
        rw [List.drop_length] at hs
        exact (Option.some.inj hs).symm
      subst es
      have nd : d.sg.ps.Nodup := by
        rw [← h1.pre]
        exact (List.take_sublist _ _).nodup h1.nd
      exact ⟨[], [], [], binds_plain F2 a1 nd, .nil, rfl, fun _ _ => .nil, rfl⟩
    · exact o.bd d hd e K _ fd F'
theorem Law.facts {L : Law} (o : L.Ok) {K : PySem.W.Frag} {h : Heap} {mg : Str → Option Value} (X : K.In h) (G : h.Ns mainGlobals mg) (c : He.SaysD L.fa L.fn K) (e : L.ex K = true) : ModFacts K mg L.tb where
  gl := fun x d hl => by
    have hm : (x, d) ∈ L.gl := He_lookup hl
    have := List.all_eq_true.mp e _ hm
    simp only at this
    split at this
    · rename_i u hu
      obtain ⟨v, r1, r2⟩ := rdB_ok u d this
      exact ⟨v, u, PySem.W.mg_of X G hu, r1, r2⟩
    · cases this
  bl := fun x hx _ _ _ => He.free_ok X G (He.SaysD.facts c (f := .free x) (List.mem_append_right _ (List.mem_map_of_mem (f := He.Fa.free) hx)))
  fn := fun nm sg hl => by
    have hm : (nm, sg) ∈ L.ds.map fun d => (d.nm, d.sg) := He_lookup hl
    obtain ⟨d, hd, e⟩ := List.mem_map.mp hm
    cases e
    obtain ⟨f, fd, h1, _⟩ := L.fact o X G c hd
    exact ⟨f, fd, _, h1⟩
where
  He_lookup {α : Type} {x : Str} {v : α} : ∀ {l : List (Str × α)}, l.lookup x = some v → (x, v) ∈ l
    | [], h => by cases h
    | (y, u) :: l, h => by
      rw [List.lookup_cons] at h
      split at h
      · rename_i q
        cases h
        rw [eq_of_beq q]
        exact List.mem_cons_self
      · exact List.mem_cons_of_mem _ (He_lookup h)
/-! ### the Hook -/
abbrev AlM : Type := He.AlD × Bool
def obsM (L : Law) (K : PySem.W.Frag) : AlM := (He.obsD L.fa L.fn K, L.ex K)
def obsMG (L : Law) (n : Nat) (g : Addr → Option Obj) : AlM := obsM L (He.frG g (He.asD g n))
def hookM (L : Law) (n : Nat) : PySem.W.Hook where
  α := AlM
  obs := fun s => obsMG L n s.heap.get?
  val := fun _ => (He.valD L.fn, true)
  says := fun _ h => ∃ K : PySem.W.Frag, K.In h ∧ He.SaysD L.fa L.fn K ∧ L.ex K = true
  of := fun _ _ e => ⟨_, He.frG_in, congrArg Prod.fst e, congrArg Prod.snd e⟩
  keeps := fun _ _ _ ⟨K, hK, c⟩ k => ⟨K, PySem.W.Frag.In.keeps hK k, c⟩
theorem obsMG_eq {L : Law} {n : Nat} {g : Addr → Option Obj} {s : Shared} (h : ∀ a, g a = s.heap.get? a) : obsMG L n g = (hookM L n).obs s := by
  have e : g = s.heap.get? := funext h
  rw [e]
  rfl
/-! ### the law -/
theorem Law.law {L : Law} (o : L.Ok) {w : World} {K : PySem.W.Frag} {h : Heap} {mg : Str → Option Value} {f : Addr} (X : K.In h) (G : h.Ns mainGlobals mg) (c : He.SaysD L.fa L.fn K) (e : L.ex K = true) {d : Dn} (hd : d ∈ L.ds) (hmg : mg d.nm = some (.ref f)) {x : Str} (e0 : d.dfl = [] ∧ d.kwd = [] ∧ d.sg.ps = [x]) (k m : Nat)
    (T : ∀ ns : List Int, ns.length ≤ m → ∃ os', callD L.fns k d.sg.ix [.v (.list (ns.map .int))] = some (.v (.bool true), os')) (hm : m ≤ SZ) :
    ∃ (K : PySem.W.Frag) (fd : FuncData) (sp : Sp), K.In h ∧ (∀ (s : Shared) (u : Value), BindsTo s fd ⟨[u], []⟩ [(x, u)]) ∧
      (∀ (H : Hp) (a : Addr) (ns : List Int), ns.length ≤ m → Only H → SqL K H a (ns.map V.int) → sp [.ref a] H (fun v _ => v = .bl true) fun _ _ _ => False) ∧
      ∀ base : Heap, K.In base → base.Ns mainGlobals mg → FnOk L.P w K mg base CX0 k f fd [x] sp := by
  obtain ⟨e1, e2, e3⟩ := e0
  obtain ⟨f', fd, F, FD⟩ := L.fact o X G c hd
  have ef : f = f' := by
    have := hmg.symm.trans F.mg
    cases this
    rfl
  subst ef
  obtain ⟨h1, _, _, h4⟩ := dnB_scope (List.all_eq_true.mp o.dn d hd)
  have F2 : FunD K d.nm d.nm (defArgs (stAt L.P d.tp)) (defBody (stAt L.P d.tp)) (defScope (stAt L.P d.tp)) [] [] f fd := by
    have q1 : (d.dd L.P).dvs K = [] := by
      show d.dfl.map _ = []
      rw [e1]
      rfl
    have q2 : (d.dd L.P).kws K = [] := by
      show d.kwd.map _ = []
      rw [e2]
      rfl
    rw [q1, q2] at FD
    exact FD
  have M := L.facts o X G c e
  refine ⟨K, fd, spOf K 1 (callD L.fns k d.sg.ix), X, fun s u => ?_, fun H a ns hl hO hS => ?_, fun base _ _ => ?_⟩
  · have := bindsTo_plain F2 (h4 e1 e2).1 (by rw [e3]; simp) s [u] (by rw [e3]; rfl)
    rw [e3] at this
    exact this
  · obtain ⟨os', hT⟩ := T ns hl
    refine ⟨rfl, fun b => b = a ∧ ∃ xs, H b = some (.lst xs), [.v (.list (ns.map .int))], _, os', ⟨rfl, fun i q hq => ?_, fun i j oi oj b hi hj wi _ _ _ => ?_, fun b ⟨_, xs, q⟩ z => by rw [q] at z; cases z⟩, hT, fun v H' F' en => ?_⟩
    · have : i = 0 ∧ q = .v (.list (ns.map .int)) := by
        match i, hq with
        | 0, hq => exact ⟨rfl, by cases hq; rfl⟩
      obtain ⟨rfl, rfl⟩ := this
      refine ⟨.ref a, rfl, Rv.lst ?_ (by rw [List.length_map]; omega) (ints_rv ns)⟩
      rcases hS with (q | ⟨o, q⟩) | q
      · exact .inl ⟨⟨rfl, _, q⟩, q⟩
      · exact .inr (.inl ⟨o, q⟩)
      · exact .inr (.inr q)
    · have : oi = .v (.list (ns.map .int)) := by
        match i, hi with
        | 0, hi => cases hi; rfl
      subst this
      cases wi
    · exact Rv.blE en.ret
  · have := fn_ok (P := L.P) (w := w) (base := base) M k F
    rw [e3] at this
    exact this
end Mp
namespace Mp
open PySem PySem.Spec PyProof.Rows L2
theorem bd_of {ds : List Dn} {Q : Dn → Prop} (I : List Nat) (h1 : (ds.zipIdx.all fun p => I.contains p.2 || (p.1.dfl.isEmpty && p.1.kwd.isEmpty)) = true) (h2 : ∀ i ∈ I, ∀ d, ds[i]? = some d → Q d) : ∀ d ∈ ds, ¬ (d.dfl = [] ∧ d.kwd = []) → Q d := fun d hd hn => by
  obtain ⟨i, hi, rfl⟩ := List.getElem_of_mem hd
  have hm : (ds[i], i) ∈ ds.zipIdx := by
    rw [List.mem_zipIdx_iff_getElem?]
    exact List.getElem?_eq_getElem hi
  have := List.all_eq_true.mp h1 _ hm
  rw [Bool.or_eq_true] at this
  rcases this with z | z
  · exact h2 i (by simpa using z) _ (List.getElem?_eq_getElem hi)
  · rw [Bool.and_eq_true] at z
    exact absurd ⟨List.isEmpty_iff.mp z.1, List.isEmpty_iff.mp z.2⟩ hn
/-- all functions: the program's at fixed places, the law's own behind 300 -/
def mkFns (lib law : List Fd) : List Fd := lib ++ (List.replicate (300 - lib.length) ⟨0, 0, []⟩ ++ law)
end Mp
end

/-! ## LibB -/
section
set_option linter.all false
set_option maxRecDepth 100000
/-! the defs, compiled -/
namespace Mp.Lib
open PySem Mp
def b_is_whole : Fd := ⟨1, 1, [(.ret (some (.and (.isi .int (.nm 0)) (.not (.isi .bool (.nm 0))))))]⟩
def b_is_from : Fd := ⟨2, 2, [(.ret (some (.and (.cal 0 [(.nm 0)] [] []) (.cmp .ge (.nm 0) (.nm 1)))))]⟩
def b_is_among : Fd := ⟨3, 3, [(.ret (some (.and (.cal 0 [(.nm 0)] [] []) (.chn .le .le (.nm 1) (.nm 0) (.nm 2)))))]⟩
def b_are_rising : Fd := ⟨1, 3, [(.ret (some (.blt .all [(.lc [1, 2] (.cmp .lt (.nm 1) (.nm 2)) (.tp [(.nm 1), (.nm 2)]) (.zip (.slc (.nm 0) none (some (.neg (.cst (.int 1))))) (.slc (.nm 0) (some (.cst (.int 1))) none)) [])])))]⟩
def b_are_letters : Fd := ⟨3, 4, [(.ret (some (.and (.isi .str (.nm 0)) (.and (.chn .le .le (.nm 1) (.blt .len [(.nm 0)]) (.nm 2)) (.blt .all [(.lc [3] (.cmp .isin (.nm 3) (.cst (.str "abcdefghijklmnopqrstuvwxyz"))) (.nm 3) (.sq (.nm 0)) [])])))))]⟩
def b_is_word : Fd := ⟨1, 1, [(.ret (some (.cal 4 [(.nm 0), (.cst (.int 1)), (.cst (.int 8))] [] [])))]⟩
def b_is_code : Fd := ⟨1, 1, [(.ret (some (.cal 4 [(.nm 0), (.cst (.int 3)), (.cst (.int 3))] [] [])))]⟩
def b_is_row : Fd := ⟨2, 2, [(.ret (some (.and (.isi .tuple (.nm 0)) (.cmp .eq (.blt .len [(.nm 0)]) (.nm 1)))))]⟩
def b_common : Fd := ⟨2, 2, [(.par [0, 1] [(.blt .abs [(.nm 0)]), (.blt .abs [(.nm 1)])]),
  (.whl (.cmp .ne (.nm 1) (.cst (.int 0))) [(.par [0, 1] [(.nm 1), (.bin .mod (.nm 0) (.nm 1))])]),
  (.ret (some (.nm 0)))]⟩
def b_reduced : Fd := ⟨2, 3, [(.asg (.nm 2) (.cal 8 [(.nm 0), (.nm 1)] [] [])),
  (.ret (some (.tup [(.bin .fdv (.nm 0) (.nm 2)), (.bin .fdv (.nm 1) (.nm 2))])))]⟩
def b_minus : Fd := ⟨2, 2, [(.ret (some (.cal 9 [(.bin .sub (.bin .mul (.idx (.nm 0) (.cst (.int 0))) (.idx (.nm 1) (.cst (.int 1)))) (.bin .mul (.idx (.nm 1) (.cst (.int 0))) (.idx (.nm 0) (.cst (.int 1))))), (.bin .mul (.idx (.nm 0) (.cst (.int 1))) (.idx (.nm 1) (.cst (.int 1))))] [] [])))]⟩
def b_times : Fd := ⟨2, 2, [(.ret (some (.cal 9 [(.bin .mul (.idx (.nm 0) (.cst (.int 0))) (.idx (.nm 1) (.cst (.int 0)))), (.bin .mul (.idx (.nm 0) (.cst (.int 1))) (.idx (.nm 1) (.cst (.int 1))))] [] [])))]⟩
def b_need_day : Fd := ⟨1, 1, [(.iff (.not (.cal 2 [(.nm 0), (.cst (.int 0)), (.cst (.int 9999))] [] [])) [.nev] [])]⟩
def b_is_custom : Fd := ⟨1, 1, [(.ret (some (.and (.isi .str (.nm 0)) (.cmp .isin (.nm 0) (.cst (.tuple [(.str "down"), (.str "even"), (.str "far"), (.str "in"), (.str "out"), (.str "up")]))))))]⟩
def b_nearest : Fd := ⟨3, 5, [(.asg (.nm 3) (.bin .fdv (.nm 0) (.nm 1))),
  (.asg (.nm 4) (.bin .mul (.cst (.int 2)) (.bin .sub (.nm 0) (.bin .mul (.nm 3) (.nm 1))))),
  (.iff (.cmp .ne (.nm 4) (.nm 1)) [(.ret (some (.bin .add (.nm 3) (.blt .int [(.cmp .gt (.nm 4) (.nm 1))]))))] []),
  (.iff (.cmp .eq (.nm 2) (.cst (.str "even"))) [(.ret (some (.bin .add (.nm 3) (.bin .mod (.nm 3) (.cst (.int 2))))))] []),
  (.ret (some (.ife (.cmp .lt (.nm 0) (.cst (.int 0))) (.nm 3) (.bin .add (.nm 3) (.cst (.int 1))))))]⟩
def b_whole_by : Fd := ⟨3, 5, [(.par [3, 4] [(.bin .fdv (.nm 0) (.nm 1)), (.bin .sub (.cst (.int 0)) (.bin .fdv (.bin .sub (.cst (.int 0)) (.nm 0)) (.nm 1)))]),
  (.iff (.cmp .eq (.nm 2) (.cst (.str "down"))) [(.ret (some (.nm 3)))] []),
  (.iff (.cmp .eq (.nm 2) (.cst (.str "up"))) [(.ret (some (.nm 4)))] []),
  (.iff (.cmp .eq (.nm 2) (.cst (.str "in"))) [(.ret (some (.ife (.cmp .ge (.nm 0) (.cst (.int 0))) (.nm 3) (.nm 4))))] []),
  (.iff (.cmp .eq (.nm 2) (.cst (.str "out"))) [(.ret (some (.ife (.cmp .ge (.nm 0) (.cst (.int 0))) (.nm 4) (.nm 3))))] []),
  (.ret (some (.cal 14 [(.nm 0), (.nm 1), (.nm 2)] [] [])))]⟩
def b_round_by : Fd := ⟨4, 5, [(.asg (.nm 4) (.bin .mul (.cal 15 [(.nm 0), (.bin .mul (.nm 1) (.nm 3)), (.nm 2)] [] []) (.nm 3))),
  (.ret (some (.tup [(.nm 4), (.cal 10 [(.cal 9 [(.nm 0), (.nm 1)] [] []), (.tup [(.nm 4), (.cst (.int 1))])] [] [])])))]⟩
def b_is_currency : Fd := ⟨1, 1, [(.iff (.or (.not (.cal 7 [(.nm 0), (.cst (.int 3))] [] [])) (.not (.cal 6 [(.idx (.nm 0) (.cst (.int 0)))] [] []))) [(.ret (some (.cst (.bool false))))] []),
  (.ret (some (.and (.cal 2 [(.idx (.nm 0) (.cst (.int 1))), (.cst (.int 0)), (.cst (.int 3))] [] []) (.cal 2 [(.idx (.nm 0) (.cst (.int 2))), (.cst (.int 1)), (.cst (.int 100))] [] []))))]⟩
def b_is_rate : Fd := ⟨2, 3, [(.iff (.or (.not (.cal 7 [(.nm 0), (.cst (.int 5))] [] [])) (.not (.blt .all [(.lc [2] (.and (.cal 6 [(.nm 2)] [] []) (.cmp .isin (.nm 2) (.nm 1))) (.nm 2) (.sq (.slc (.nm 0) none (some (.cst (.int 2))))) [])]))) [(.ret (some (.cst (.bool false))))] []),
  (.iff (.or (.not (.cmp .lt (.idx (.nm 0) (.cst (.int 0))) (.idx (.nm 0) (.cst (.int 1))))) (.not (.cal 2 [(.idx (.nm 0) (.cst (.int 2))), (.cst (.int 0)), (.cst (.int 9999))] [] []))) [(.ret (some (.cst (.bool false))))] []),
  (.ret (some (.blt .all [(.lc [2] (.cal 2 [(.nm 2), (.cst (.int 1)), (.cst (.int 100000))] [] []) (.nm 2) (.sq (.slc (.nm 0) (some (.cst (.int 3))) none)) [])])))]⟩
def b_is_tax : Fd := ⟨1, 6, [(.iff (.or (.not (.cal 7 [(.nm 0), (.cst (.int 5))] [] [])) (.or (.not (.cal 5 [(.idx (.nm 0) (.cst (.int 0)))] [] [])) (.not (.cal 2 [(.idx (.nm 0) (.cst (.int 1))), (.cst (.int 0)), (.cst (.int 9999))] [] [])))) [(.ret (some (.cst (.bool false))))] []),
  (.asg (.tp [(.nm 1), (.nm 2), (.nm 3), (.nm 4), (.nm 5)]) (.nm 0)),
  (.ret (some (.and (.cal 2 [(.nm 4), (.cst (.int 1)), (.cst (.int 1000))] [] []) (.and (.cal 2 [(.nm 3), (.cst (.int 0)), (.nm 4)] [] []) (.and (.isi .str (.nm 5)) (.cmp .isin (.nm 5) (.cst (.tuple [(.str "on"), (.str "within")]))))))))]⟩
def b_is_custom_row : Fd := ⟨1, 1, [(.ret (some (.and (.cal 7 [(.nm 0), (.cst (.int 2))] [] []) (.and (.cal 2 [(.idx (.nm 0) (.cst (.int 0))), (.cst (.int 0)), (.cst (.int 9999))] [] []) (.cal 13 [(.idx (.nm 0) (.cst (.int 1)))] [] [])))))]⟩
def b_are_few : Fd := ⟨3, 3, [(.ret (some (.and (.isi .tuple (.nm 0)) (.chn .le .le (.nm 1) (.blt .len [(.nm 0)]) (.nm 2)))))]⟩
def b_are_currencies : Fd := ⟨1, 2, [(.iff (.or (.not (.cal 21 [(.nm 0), (.cst (.int 1)), (.cst (.int 5))] [] [])) (.not (.blt .all [(.lc [1] (.cal 17 [(.nm 1)] [] []) (.nm 1) (.sq (.nm 0)) [])]))) [(.ret (some (.cst (.bool false))))] []),
  (.ret (some (.cal 3 [(.lc [1] (.idx (.nm 1) (.cst (.int 0))) (.nm 1) (.sq (.nm 0)) [])] [] [])))]⟩
def b_are_rates : Fd := ⟨2, 3, [(.iff (.or (.not (.cal 21 [(.nm 0), (.cst (.int 0)), (.cst (.int 20))] [] [])) (.not (.blt .all [(.lc [2] (.cal 18 [(.nm 2), (.nm 1)] [] []) (.nm 2) (.sq (.nm 0)) [])]))) [(.ret (some (.cst (.bool false))))] []),
  (.ret (some (.cal 3 [(.lc [2] (.slc (.nm 2) none (some (.cst (.int 3)))) (.nm 2) (.sq (.nm 0)) [])] [] [])))]⟩
def b_are_taxes : Fd := ⟨1, 2, [(.iff (.or (.not (.cal 21 [(.nm 0), (.cst (.int 0)), (.cst (.int 12))] [] [])) (.not (.blt .all [(.lc [1] (.cal 19 [(.nm 1)] [] []) (.nm 1) (.sq (.nm 0)) [])]))) [(.ret (some (.cst (.bool false))))] []),
  (.ret (some (.cal 3 [(.lc [1] (.slc (.nm 1) none (some (.cst (.int 2)))) (.nm 1) (.sq (.nm 0)) [])] [] [])))]⟩
def b_are_customs : Fd := ⟨1, 2, [(.iff (.or (.not (.cal 21 [(.nm 0), (.cst (.int 0)), (.cst (.int 5))] [] [])) (.not (.blt .all [(.lc [1] (.cal 20 [(.nm 1)] [] []) (.nm 1) (.sq (.nm 0)) [])]))) [(.ret (some (.cst (.bool false))))] []),
  (.ret (some (.and (.cal 3 [(.lc [1] (.idx (.nm 1) (.cst (.int 0))) (.nm 1) (.sq (.nm 0)) [])] [] []) (.or (.cmp .eq (.nm 0) (.tup [])) (.cmp .eq (.idx (.idx (.nm 0) (.cst (.int 0))) (.cst (.int 0))) (.cst (.int 0)))))))]⟩
def b_codes_of : Fd := ⟨1, 2, [(.ret (some (.lc [1] (.idx (.nm 1) (.cst (.int 0))) (.nm 1) (.sq (.idx (.nm 0) (.cst (.int 0)))) [])))]⟩
def b_are_rules : Fd := ⟨1, 1, [(.iff (.or (.not (.cal 7 [(.nm 0), (.cst (.int 4))] [] [])) (.not (.cal 22 [(.idx (.nm 0) (.cst (.int 0)))] [] []))) [(.ret (some (.cst (.bool false))))] []),
  (.ret (some (.and (.cal 23 [(.idx (.nm 0) (.cst (.int 1))), (.cal 26 [(.nm 0)] [] [])] [] []) (.and (.cal 24 [(.idx (.nm 0) (.cst (.int 2)))] [] []) (.cal 25 [(.idx (.nm 0) (.cst (.int 3)))] [] [])))))]⟩
def b_need_rules : Fd := ⟨1, 1, [(.iff (.not (.cal 27 [(.nm 0)] [] [])) [.nev] [])]⟩
def b_need_coins : Fd := ⟨3, 3, [(.iff (.or (.not (.cal 0 [(.nm 0)] [] [])) (.or (.and (.cmp .isn (.nm 1) (.cst .none)) (.not (.cal 1 [(.nm 0), (.nm 1)] [] []))) (.and (.cmp .isn (.nm 2) (.cst .none)) (.cmp .gt (.nm 0) (.nm 2))))) [.nev] [])]⟩
def b_custom_at : Fd := ⟨2, 5, [(.asg (.nm 2) (.lc [3, 4] (.nm 4) (.tp [(.nm 3), (.nm 4)]) (.sq (.idx (.nm 0) (.cst (.int 3)))) [(.cmp .le (.nm 3) (.nm 1))])),
  (.ret (some (.ife (.cmp .ne (.nm 2) (.lst [])) (.idx (.nm 2) (.neg (.cst (.int 1)))) (.cst (.str "even")))))]⟩
def b_rate_at : Fd := ⟨4, 12, [(.iff (.cmp .eq (.nm 2) (.nm 3)) [(.ret (some (.cst (.tuple [(.int 1), (.int 1)]))))] []),
  (.asg (.nm 4) (.tup [(.blt .min2 [(.nm 2), (.nm 3)]), (.blt .max2 [(.nm 2), (.nm 3)])])),
  (.asg (.nm 5) (.lc [11] (.nm 11) (.nm 11) (.sq (.idx (.nm 0) (.cst (.int 1)))) [(.and (.cmp .eq (.slc (.nm 11) none (some (.cst (.int 2)))) (.nm 4)) (.cmp .le (.idx (.nm 11) (.cst (.int 2))) (.nm 1)))])),
  (.iff (.cmp .eq (.nm 5) (.lst [])) [(.ret (some (.cst .none)))] []),
  (.asg (.tp [(.nm 6), (.nm 7), (.nm 8), (.nm 9), (.nm 10)]) (.idx (.nm 5) (.neg (.cst (.int 1))))),
  (.ret (some (.ife (.cmp .eq (.nm 2) (.nm 6)) (.cal 9 [(.nm 9), (.nm 10)] [] []) (.cal 9 [(.nm 10), (.nm 9)] [] []))))]⟩
def b_is_road : Fd := ⟨3, 7, [(.iff (.or (.not (.isi .tuple (.nm 2))) (.not (.chn .le .le (.cst (.int 2)) (.blt .len [(.nm 2)]) (.cst (.int 6))))) [(.ret (some (.cst (.bool false))))] []),
  (.asg (.nm 3) (.lc [4] (.idx (.nm 4) (.cst (.int 0))) (.nm 4) (.sq (.idx (.nm 0) (.cst (.int 0)))) [])),
  (.iff (.not (.blt .all [(.lc [5] (.and (.isi .str (.nm 5)) (.cmp .isin (.nm 5) (.nm 3))) (.nm 5) (.sq (.nm 2)) [])])) [(.ret (some (.cst (.bool false))))] []),
  (.ret (some (.blt .all [(.lc [5, 6] (.and (.cmp .ne (.nm 5) (.nm 6)) (.cmp .isn (.cal 31 [(.nm 0), (.nm 1), (.nm 5), (.nm 6)] [] []) (.cst .none))) (.tp [(.nm 5), (.nm 6)]) (.zip (.nm 2) (.slc (.nm 2) (some (.cst (.int 1))) none)) [])])))]⟩
def b_need_road : Fd := ⟨3, 3, [(.iff (.not (.cal 32 [(.nm 0), (.nm 1), (.nm 2)] [] [])) [.nev] [])]⟩
def b_rates_of : Fd := ⟨3, 5, [(.ret (some (.lc [3, 4] (.cal 31 [(.nm 0), (.nm 1), (.nm 3), (.nm 4)] [] []) (.tp [(.nm 3), (.nm 4)]) (.zip (.nm 2) (.slc (.nm 2) (some (.cst (.int 1))) none)) [])))]⟩
def b_paper_by : Fd := ⟨4, 11, [(.asg (.nm 4) (.lst [])),
  (.for (.tp [(.tp [(.nm 5), (.nm 6)]), (.nm 7)]) (.zpz (.nm 3) (.slc (.nm 3) (some (.cst (.int 1))) none) (.nm 1)) [(.asg (.nm 8) (.cal 11 [(.tup [(.nm 2), (.cst (.int 1))]), (.nm 7)] [] [])), (.asg (.tp [(.nm 9), (.nm 10)]) (.cal 16 [(.idx (.nm 8) (.cst (.int 0))), (.idx (.nm 8) (.cst (.int 1))), (.nm 0)] [] [(.inr (.int 1))])), (.exp (.app 4 (.tup [(.nm 5), (.nm 6), (.nm 2), (.nm 8), (.nm 9), (.nm 10)]))), (.asg (.nm 2) (.nm 9))]),
  (.ret (some (.blt .tuple [(.nm 4)])))]⟩
def b_worth_by : Fd := ⟨2, 4, [(.asg (.nm 2) (.tup [(.nm 1), (.cst (.int 1))])),
  (.for (.nm 3) (.sq (.nm 0)) [(.asg (.nm 2) (.cal 11 [(.nm 2), (.nm 3)] [] []))]),
  (.ret (some (.nm 2)))]⟩
def b_need_case : Fd := ⟨4, 4, [(.exp (.cal 28 [(.nm 0)] [] [])),
  (.exp (.cal 12 [(.nm 1)] [] [])),
  (.exp (.cal 29 [(.nm 2)] [] [(.inr .none), (.inr .none)])),
  (.exp (.cal 33 [(.nm 0), (.nm 1), (.nm 3)] [] []))]⟩
def b_along : Fd := ⟨4, 4, [(.exp (.cal 37 [(.nm 0), (.nm 1), (.nm 2), (.nm 3)] [] [])),
  (.ret (some (.cal 35 [(.cal 30 [(.nm 0), (.nm 1)] [] []), (.cal 34 [(.nm 0), (.nm 1), (.nm 3)] [] []), (.nm 2), (.nm 3)] [] [])))]⟩
def b_worth : Fd := ⟨4, 4, [(.exp (.cal 37 [(.nm 0), (.nm 1), (.nm 2), (.nm 3)] [] [])),
  (.ret (some (.cal 36 [(.cal 34 [(.nm 0), (.nm 1), (.nm 3)] [] []), (.nm 2)] [] [])))]⟩
def b_l_cell_at : Fd := ⟨2, 2, [(.iff (.cmp .lt (.nm 1) (.blt .len [(.nm 0)])) [(.ret (some (.idx (.nm 0) (.nm 1))))] []),
  (.ret (some (.cst (.int 0))))]⟩
def b_l_state : Fd := ⟨2, 3, [(.asg (.nm 2) (.cal 40 [(.nm 0), (.nm 1)] [] [])),
  (.ret (some (.lst [(.blt .max2 [(.cst (.int 0)), (.bin .sub (.nm 2) (.bin .pow (.cst (.int 10)) (.cst (.int 18))))]), (.bin .mod (.nm 2) (.cst (.int 2147483647))), (.cst (.int 0))])))]⟩
def b_l_take : Fd := ⟨2, 4, [(.iff (.cmp .gt (.idx (.nm 0) (.cst (.int 0))) (.cst (.int 0))) [(.asg (.nm 2) (.bin .mod (.idx (.nm 0) (.cst (.int 0))) (.nm 1))), (.sti 0 (.cst (.int 0)) (.bin .fdv (.idx (.nm 0) (.cst (.int 0))) (.nm 1))), (.ret (some (.nm 2)))] []),
  (.sti 0 (.cst (.int 2)) (.bin .add (.idx (.nm 0) (.cst (.int 2))) (.cst (.int 1)))),
  (.sti 0 (.cst (.int 1)) (.bin .mod (.bin .add (.bin .add (.bin .mul (.idx (.nm 0) (.cst (.int 1))) (.cst (.int 48271))) (.cst (.int 29))) (.idx (.nm 0) (.cst (.int 2)))) (.cst (.int 2147483647)))),
  (.asg (.nm 3) (.bin .mod (.bin .add (.bin .add (.bin .mul (.idx (.nm 0) (.cst (.int 1))) (.idx (.nm 0) (.cst (.int 1)))) (.bin .mul (.cst (.int 39373)) (.idx (.nm 0) (.cst (.int 1))))) (.cst (.int 7))) (.cst (.int 2147483629)))),
  (.asg (.nm 3) (.bin .mod (.bin .add (.bin .mul (.nm 3) (.nm 3)) (.bin .mul (.cst (.int 16807)) (.nm 3))) (.cst (.int 2147483587)))),
  (.ret (some (.bin .mod (.bin .fdv (.nm 3) (.cst (.int 8))) (.nm 1))))]⟩
def b_l_low : Fd := ⟨2, 4, [(.par [2, 3] [(.blt .abs [(.nm 0)]), (.nm 1)]),
  (.whl (.cmp .gt (.nm 3) (.cst (.int 0))) [(.par [2, 3] [(.nm 3), (.bin .mod (.nm 2) (.nm 3))])]),
  (.ret (some (.tup [(.bin .fdv (.nm 0) (.nm 2)), (.bin .fdv (.nm 1) (.nm 2))])))]⟩
def b_l_under : Fd := ⟨2, 2, [(.ret (some (.cmp .lt (.bin .mul (.idx (.nm 0) (.cst (.int 0))) (.idx (.nm 1) (.cst (.int 1)))) (.bin .mul (.idx (.nm 1) (.cst (.int 0))) (.idx (.nm 0) (.cst (.int 1)))))))]⟩
def b_l_coins : Fd := ⟨1, 3, [(.par [1, 2] [(.cal 42 [(.nm 0), (.cst (.int 100))] [] []), (.cal 42 [(.nm 0), (.bin .pow (.cst (.int 10)) (.cst (.int 12)))] [] [])]),
  (.ret (some (.idx (.lst [(.cst (.int 0)), (.cst (.int 1)), (.nm 1), (.nm 2), (.bin .sub (.cst (.int 0)) (.nm 1)), (.bin .sub (.cst (.int 0)) (.nm 2)), (.bin .pow (.cst (.int 10)) (.cst (.int 29))), (.bin .add (.cst (.int 1)) (.cal 42 [(.nm 0), (.bin .pow (.cst (.int 10)) (.cst (.int 6)))] [] []))]) (.cal 42 [(.nm 0), (.cst (.int 8))] [] []))))]⟩
def b_l_codes : Fd := ⟨1, 3, [(.asg (.nm 1) (.lst [(.cst (.str "abc")), (.cst (.str "bcd")), (.cst (.str "eur")), (.cst (.str "usd")), (.cst (.str "yen")), (.cst (.str "zzz"))])),
  (.for (.nm 2) (.rng (.cst (.int 0)) (.bin .sub (.cst (.int 5)) (.cal 42 [(.nm 0), (.cst (.int 5))] [] []))) [(.exp (.pop 1 (some (.cal 42 [(.nm 0), (.blt .len [(.nm 1)])] [] []))))]),
  (.ret (some (.nm 1)))]⟩
def b_l_rates : Fd := ⟨3, 15, [(.par [3, 4, 5] [(.lc [13] (.bin .add (.cst (.int 1)) (.cal 42 [(.nm 0), (.nm 2)] [] [])) (.nm 13) (.sq (.nm 1)) []), (.cal 42 [(.nm 0), (.cst (.int 3))] [] []), (.dct [])]),
  (.for (.tp [(.nm 6), (.nm 7)]) (.enm (.nm 1)) [(.for (.nm 8) (.rng (.bin .add (.nm 6) (.cst (.int 1))) (.blt .len [(.nm 1)])) [(.for (.nm 9) (.rng (.cst (.int 0)) (.idx (.lst [(.cst (.int 1)), (.cst (.int 1)), (.cst (.int 2)), (.cst (.int 0))]) (.cal 42 [(.nm 0), (.cst (.int 4))] [] []))) [(.asg (.nm 10) (.idx (.lst [(.cst (.int 0)), (.cal 42 [(.nm 0), (.cst (.int 40))] [] []), (.cal 42 [(.nm 0), (.cst (.int 10000))] [] [])]) (.cal 42 [(.nm 0), (.cst (.int 3))] [] []))), (.asg (.nm 11) (.tup [(.idx (.nm 3) (.nm 6)), (.idx (.nm 3) (.nm 8))])), (.iff (.or (.cmp .eq (.nm 4) (.cst (.int 1))) (.and (.cmp .eq (.nm 4) (.cst (.int 2))) (.cmp .eq (.cal 42 [(.nm 0), (.cst (.int 6))] [] []) (.cst (.int 0))))) [(.asg (.nm 11) (.tup [(.bin .add (.cst (.int 1)) (.cal 42 [(.nm 0), (.nm 2)] [] [])), (.bin .add (.cst (.int 1)) (.cal 42 [(.nm 0), (.nm 2)] [] []))]))] []), (.sti 5 (.tup [(.nm 7), (.idx (.nm 1) (.nm 8)), (.nm 10)]) (.nm 11))])])]),
  (.asg (.nm 12) (.lc [14] (.bin .add (.nm 14) (.idx (.nm 5) (.nm 14))) (.nm 14) (.sq (.blt .sorted [(.nm 5)])) [])),
  (.ret (some (.blt .tuple [(.nm 12)])))]⟩
def b_l_customs : Fd := ⟨1, 6, [(.asg (.nm 1) (.blt .setsorted [(.bin .add (.lst [(.cst (.int 0))]) (.lc [4] (.bin .add (.cst (.int 1)) (.cal 42 [(.nm 0), (.cst (.int 60))] [] [])) (.nm 4) (.rng (.cst (.int 0)) (.cal 42 [(.nm 0), (.cst (.int 4))] [] [])) []))])),
  (.asg (.nm 2) (.lst [(.cst (.str "down")), (.cst (.str "up")), (.cst (.str "in")), (.cst (.str "out")), (.cst (.str "even")), (.cst (.str "far"))])),
  (.asg (.nm 3) (.lc [5] (.tup [(.nm 5), (.idx (.nm 2) (.cal 42 [(.nm 0), (.cst (.int 6))] [] []))]) (.nm 5) (.sq (.nm 1)) [])),
  (.ret (some (.ife (.cmp .gt (.cal 42 [(.nm 0), (.cst (.int 4))] [] []) (.cst (.int 0))) (.blt .tuple [(.nm 3)]) (.tup []))))]⟩
def b_l_rules : Fd := ⟨2, 6, [(.asg (.nm 2) (.cal 46 [(.nm 0)] [] [])),
  (.asg (.nm 3) (.blt .tuple [(.lc [5] (.tup [(.nm 5), (.cal 42 [(.nm 0), (.cst (.int 4))] [] []), (.bin .add (.cst (.int 1)) (.cal 42 [(.nm 0), (.cst (.int 100))] [] []))]) (.nm 5) (.sq (.nm 2)) [])])),
  (.asg (.nm 4) (.idx (.lst [(.tup []), (.tup [(.tup [(.cst (.str "vat")), (.cst (.int 0)), (.cst (.int 19)), (.cst (.int 100)), (.cst (.str "on"))])]), (.tup [(.tup [(.cst (.str "vat")), (.cst (.int 3)), (.cst (.int 0)), (.cst (.int 1)), (.cst (.str "within"))])])]) (.cal 42 [(.nm 0), (.cst (.int 3))] [] []))),
  (.ret (some (.tup [(.nm 3), (.cal 47 [(.nm 0), (.nm 2), (.nm 1)] [] []), (.nm 4), (.cal 48 [(.nm 0)] [] [])])))]⟩
def b_l_when : Fd := ⟨1, 1, [(.ret (some (.idx (.lst [(.cst (.int 0)), (.cst (.int 9999)), (.cal 42 [(.nm 0), (.cst (.int 70))] [] []), (.cal 42 [(.nm 0), (.cst (.int 10000))] [] [])]) (.cal 42 [(.nm 0), (.cst (.int 4))] [] []))))]⟩
def b_l_names : Fd := ⟨1, 2, [(.ret (some (.lc [1] (.idx (.nm 1) (.cst (.int 0))) (.nm 1) (.sq (.idx (.nm 0) (.cst (.int 0)))) [])))]⟩
def b_l_rate : Fd := ⟨4, 11, [(.iff (.cmp .eq (.nm 2) (.nm 3)) [(.ret (some (.tup [(.cst (.int 1)), (.cst (.int 1))])))] []),
  (.par [4, 5] [(.cst .none), (.neg (.cst (.int 1)))]),
  (.for (.tp [(.nm 6), (.nm 7), (.nm 8), (.nm 9), (.nm 10)]) (.sq (.idx (.nm 0) (.cst (.int 1)))) [(.iff (.and (.cmp .le (.nm 8) (.nm 1)) (.and (.cmp .gt (.nm 8) (.nm 5)) (.cmp .isin (.tup [(.nm 6), (.nm 7)]) (.tup [(.tup [(.nm 2), (.nm 3)]), (.tup [(.nm 3), (.nm 2)])])))) [(.par [4, 5] [(.ife (.cmp .eq (.nm 6) (.nm 2)) (.cal 43 [(.nm 9), (.nm 10)] [] []) (.cal 43 [(.nm 10), (.nm 9)] [] [])), (.nm 8)])] [])]),
  (.ret (some (.nm 4)))]⟩
def b_l_near : Fd := ⟨3, 4, [(.ret (some (.lc [3] (.nm 3) (.nm 3) (.sq (.cal 51 [(.nm 0)] [] [])) [(.and (.cmp .ne (.nm 3) (.nm 2)) (.cmp .isn (.cal 52 [(.nm 0), (.nm 1), (.nm 2), (.nm 3)] [] []) (.cst .none)))])))]⟩
def b_l_way : Fd := ⟨4, 8, [(.asg (.nm 4) (.cal 51 [(.nm 1)] [] [])),
  (.asg (.nm 5) (.lst [(.idx (.nm 4) (.cal 42 [(.nm 0), (.blt .len [(.nm 4)])] [] []))])),
  (.for (.nm 6) (.rng (.cst (.int 0)) (.bin .add (.cst (.int 1)) (.cal 42 [(.nm 0), (.nm 3)] [] []))) [(.asg (.nm 7) (.cal 53 [(.nm 1), (.nm 2), (.idx (.nm 5) (.neg (.cst (.int 1))))] [] [])), (.iff (.cmp .ne (.nm 7) (.lst [])) [(.exp (.app 5 (.idx (.nm 7) (.cal 42 [(.nm 0), (.blt .len [(.nm 7)])] [] []))))] [])]),
  (.ret (some (.blt .tuple [(.nm 5)])))]⟩
def b_plus : Fd := ⟨2, 2, [(.ret (some (.cal 9 [(.bin .add (.bin .mul (.idx (.nm 0) (.cst (.int 0))) (.idx (.nm 1) (.cst (.int 1)))) (.bin .mul (.idx (.nm 1) (.cst (.int 0))) (.idx (.nm 0) (.cst (.int 1))))), (.bin .mul (.idx (.nm 0) (.cst (.int 1))) (.idx (.nm 1) (.cst (.int 1))))] [] [])))]⟩
def b_need_code : Fd := ⟨2, 2, [(.iff (.or (.not (.cal 6 [(.nm 1)] [] [])) (.cmp .nin (.nm 1) (.cal 26 [(.nm 0)] [] []))) [.nev] [])]⟩
def b_rate : Fd := ⟨4, 4, [(.exp (.cal 28 [(.nm 0)] [] [])),
  (.exp (.cal 12 [(.nm 1)] [] [])),
  (.exp (.cal 60 [(.nm 0), (.nm 2)] [] [])),
  (.exp (.cal 60 [(.nm 0), (.nm 3)] [] [])),
  (.ret (some (.cal 31 [(.nm 0), (.nm 1), (.nm 2), (.nm 3)] [] [])))]⟩
def b_need_same_ends : Fd := ⟨2, 2, [(.iff (.cmp .ne (.tup [(.idx (.nm 1) (.cst (.int 0))), (.idx (.nm 1) (.neg (.cst (.int 1))))]) (.tup [(.idx (.nm 0) (.cst (.int 0))), (.idx (.nm 0) (.neg (.cst (.int 1))))])) [.nev] [])]⟩
def b_roundings_by : Fd := ⟨2, 7, [(.asg (.nm 2) (.cst (.tuple [(.int 0), (.int 1)]))),
  (.for (.tp [(.nm 3), (.nm 4)]) (.enm (.nm 1)) [(.asg (.nm 5) (.idx (.nm 4) (.cst (.int 5)))), (.for (.nm 6) (.sq (.slc (.nm 0) (some (.bin .add (.nm 3) (.cst (.int 1)))) none)) [(.asg (.nm 5) (.cal 11 [(.nm 5), (.nm 6)] [] []))]), (.asg (.nm 2) (.cal 59 [(.nm 2), (.nm 5)] [] []))]),
  (.ret (some (.nm 2)))]⟩
def b_is_like : Fd := ⟨2, 4, [(.iff (.isi .tuple (.nm 1)) [(.iff (.or (.not (.isi .tuple (.nm 0))) (.cmp .ne (.blt .len [(.nm 0)]) (.blt .len [(.nm 1)]))) [(.ret (some (.cst (.bool false))))] []), (.ret (some (.blt .all [(.lc [2, 3] (.cal 64 [(.nm 2), (.nm 3)] [] []) (.tp [(.nm 2), (.nm 3)]) (.zip (.nm 0) (.nm 1)) [])])))] []),
  (.iff (.isi .str (.nm 1)) [(.ret (some (.and (.isi .str (.nm 0)) (.cmp .eq (.nm 0) (.nm 1)))))] []),
  (.ret (some (.and (.cal 0 [(.nm 0)] [] []) (.cmp .eq (.nm 0) (.nm 1)))))]⟩
def b_is_along : Fd := ⟨5, 5, [(.ret (some (.cal 64 [(.nm 4), (.cal 38 [(.nm 0), (.nm 1), (.nm 2), (.nm 3)] [] [])] [] [])))]⟩
def b_between : Fd := ⟨5, 13, [(.exp (.cal 37 [(.nm 0), (.nm 1), (.nm 2), (.nm 3)] [] [])),
  (.exp (.cal 33 [(.nm 0), (.nm 1), (.nm 4)] [] [])),
  (.exp (.cal 62 [(.nm 3), (.nm 4)] [] [])),
  (.par [5, 6, 7, 8] [(.cal 30 [(.nm 0), (.nm 1)] [] []), (.lst []), (.lst []), (.lst [])]),
  (.for (.nm 9) (.sq (.tup [(.nm 3), (.nm 4)])) [(.asg (.nm 10) (.cal 34 [(.nm 0), (.nm 1), (.nm 9)] [] [])), (.asg (.nm 11) (.cal 35 [(.nm 5), (.nm 10), (.nm 2), (.nm 9)] [] [])), (.exp (.app 6 (.tup [(.idx (.idx (.nm 11) (.neg (.cst (.int 1)))) (.cst (.int 4))), (.cst (.int 1))]))), (.exp (.app 7 (.cal 36 [(.nm 10), (.nm 2)] [] []))), (.exp (.app 8 (.cal 63 [(.nm 10), (.nm 11)] [] [])))]),
  (.ret (some (.blt .tuple [(.lc [12] (.cal 10 [(.idx (.nm 12) (.cst (.int 0))), (.idx (.nm 12) (.cst (.int 1)))] [] []) (.nm 12) (.sq (.tup [(.nm 6), (.nm 7), (.nm 8)])) [])])))]⟩
def b_l_plus : Fd := ⟨2, 2, [(.ret (some (.cal 43 [(.bin .add (.bin .mul (.idx (.nm 0) (.cst (.int 0))) (.idx (.nm 1) (.cst (.int 1)))) (.bin .mul (.idx (.nm 1) (.cst (.int 0))) (.idx (.nm 0) (.cst (.int 1))))), (.bin .mul (.idx (.nm 0) (.cst (.int 1))) (.idx (.nm 1) (.cst (.int 1))))] [] [])))]⟩
def b_l_less : Fd := ⟨2, 2, [(.ret (some (.cal 43 [(.bin .sub (.bin .mul (.idx (.nm 0) (.cst (.int 0))) (.idx (.nm 1) (.cst (.int 1)))) (.bin .mul (.idx (.nm 1) (.cst (.int 0))) (.idx (.nm 0) (.cst (.int 1))))), (.bin .mul (.idx (.nm 0) (.cst (.int 1))) (.idx (.nm 1) (.cst (.int 1))))] [] [])))]⟩
def b_l_times : Fd := ⟨2, 2, [(.ret (some (.cal 43 [(.bin .mul (.idx (.nm 0) (.cst (.int 0))) (.idx (.nm 1) (.cst (.int 0)))), (.bin .mul (.idx (.nm 0) (.cst (.int 1))) (.idx (.nm 1) (.cst (.int 1))))] [] [])))]⟩
def b_l_mate : Fd := ⟨4, 7, [(.for (.nm 4) (.rng (.cst (.int 0)) (.cst (.int 6))) [(.asg (.nm 5) (.cal 54 [(.nm 0), (.nm 1), (.nm 2), (.cst (.int 5))] [] [])), (.iff (.and (.cmp .gt (.blt .len [(.nm 5)]) (.cst (.int 1))) (.cmp .eq (.tup [(.idx (.nm 5) (.cst (.int 0))), (.idx (.nm 5) (.neg (.cst (.int 1))))]) (.tup [(.idx (.nm 3) (.cst (.int 0))), (.idx (.nm 3) (.neg (.cst (.int 1))))]))) [(.ret (some (.nm 5)))] [])]),
  (.asg (.nm 6) (.tup [(.idx (.nm 3) (.cst (.int 0))), (.idx (.nm 3) (.neg (.cst (.int 1))))])),
  (.ret (some (.ife (.cmp .isin (.idx (.nm 3) (.neg (.cst (.int 1)))) (.cal 53 [(.nm 1), (.nm 2), (.idx (.nm 3) (.cst (.int 0)))] [] [])) (.nm 6) (.nm 3))))]⟩
def b_l_paper_right : Fd := ⟨4, 14, [(.par [4, 5] [(.cal 38 [(.nm 0), (.nm 1), (.nm 2), (.nm 3)] [] []), (.nm 2)]),
  (.iff (.cmp .ne (.lc [13] (.slc (.nm 13) none (some (.cst (.int 2)))) (.nm 13) (.sq (.nm 4)) []) (.blt .listzip [(.nm 3), (.slc (.nm 3) (some (.cst (.int 1))) none)])) [(.ret (some (.cst .none)))] []),
  (.iff (.cmp .isn (.cal 65 [(.nm 0), (.nm 1), (.nm 2), (.nm 3), (.nm 4)] [] []) (.cst (.bool true))) [(.ret (some (.cst .none)))] []),
  (.for (.tp [(.nm 6), (.nm 7), (.nm 8), (.nm 9), (.nm 10), (.nm 11)]) (.sq (.nm 4)) [(.asg (.nm 12) (.cal 69 [(.tup [(.nm 5), (.cst (.int 1))]), (.cal 61 [(.nm 0), (.nm 1), (.nm 6), (.nm 7)] [] [])] [] [])), (.iff (.or (.cmp .ne (.nm 8) (.nm 5)) (.or (.cmp .ne (.nm 9) (.nm 12)) (.cmp .ne (.cal 67 [(.tup [(.nm 10), (.cst (.int 1))]), (.nm 11)] [] []) (.nm 9)))) [(.ret (some (.cst .none)))] []), (.iff (.or (.not (.cal 44 [(.tup [(.neg (.cst (.int 1))), (.cst (.int 1))]), (.nm 11)] [] [])) (.not (.cal 44 [(.nm 11), (.tup [(.cst (.int 1)), (.cst (.int 1))])] [] []))) [(.ret (some (.cst .none)))] []), (.asg (.nm 5) (.nm 10))]),
  (.iff (.cmp .isn (.cal 65 [(.nm 0), (.nm 1), (.bin .add (.nm 2) (.cst (.int 1))), (.nm 3), (.nm 4)] [] []) (.cst (.bool false))) [(.ret (some (.cst .none)))] []),
  (.ret (some (.nm 5)))]⟩
def b_l_right_2 : Fd := ⟨5, 14, [(.asg (.nm 5) (.cal 70 [(.nm 0), (.nm 1), (.nm 2), (.nm 4)] [] [])),
  (.par [6, 7] [(.cal 71 [(.nm 1), (.nm 2), (.nm 3), (.nm 4)] [] []), (.cal 71 [(.nm 1), (.nm 2), (.nm 3), (.nm 5)] [] [])]),
  (.iff (.or (.cmp .is (.nm 6) (.cst .none)) (.cmp .is (.nm 7) (.cst .none))) [(.ret (some (.cst (.bool false))))] []),
  (.asg (.tp [(.nm 8), (.nm 9), (.nm 10)]) (.cal 66 [(.nm 1), (.nm 2), (.nm 3), (.nm 4), (.nm 5)] [] [])),
  (.iff (.or (.cmp .ne (.nm 8) (.tup [(.bin .sub (.nm 6) (.nm 7)), (.cst (.int 1))])) (.cmp .ne (.nm 8) (.cal 68 [(.nm 9), (.nm 10)] [] []))) [(.ret (some (.cst (.bool false))))] []),
  (.iff (.cmp .ne (.nm 9) (.cal 68 [(.cal 39 [(.nm 1), (.nm 2), (.nm 3), (.nm 4)] [] []), (.cal 39 [(.nm 1), (.nm 2), (.nm 3), (.nm 5)] [] [])] [] [])) [(.ret (some (.cst (.bool false))))] []),
  (.asg (.nm 11) (.blt .tuple [(.lc [12, 13] (.tup [(.bin .sub (.cst (.int 0)) (.nm 12)), (.nm 13)]) (.tp [(.nm 12), (.nm 13)]) (.sq (.tup [(.nm 8), (.nm 9), (.nm 10)])) [])])),
  (.iff (.or (.cmp .ne (.cal 66 [(.nm 1), (.nm 2), (.nm 3), (.nm 5), (.nm 4)] [] []) (.nm 11)) (.cmp .ne (.cal 66 [(.nm 1), (.nm 2), (.nm 3), (.nm 4), (.nm 4)] [] []) (.bin .mul (.tup [(.tup [(.cst (.int 0)), (.cst (.int 1))])]) (.cst (.int 3))))) [(.ret (some (.cst (.bool false))))] []),
  (.ret (some (.or (.cmp .gt (.blt .len [(.nm 4)]) (.cst (.int 3))) (.cmp .eq (.cal 39 [(.nm 1), (.nm 2), (.nm 3), (.bin .add (.nm 4) (.slc (.stp (.nm 4) none (-1)) (some (.cst (.int 1))) none))] [] []) (.tup [(.nm 3), (.cst (.int 1))])))))]⟩
def b_law_k84 : Fd := ⟨1, 8, [(.for (.nm 1) (.rng (.cst (.int 0)) (.blt .max2 [(.cst (.int 1)), (.blt .min2 [(.blt .len [(.nm 0)]), (.cst (.int 3))])])) [(.asg (.nm 2) (.cal 41 [(.nm 0), (.nm 1)] [] [])), (.for (.nm 3) (.rng (.cst (.int 0)) (.cst (.int 2))) [(.par [4, 5] [(.cal 49 [(.nm 2), (.idx (.lst [(.cst (.int 9)), (.cst (.int 300)), (.cst (.int 100000))]) (.cal 42 [(.nm 2), (.cst (.int 3))] [] []))] [] []), (.cal 50 [(.nm 2)] [] [])]), (.par [6, 7] [(.cal 45 [(.nm 2)] [] []), (.cal 54 [(.nm 2), (.nm 4), (.nm 5), (.cst (.int 5))] [] [])]), (.iff (.and (.cmp .gt (.blt .len [(.nm 7)]) (.cst (.int 1))) (.not (.cal 72 [(.nm 2), (.nm 4), (.nm 5), (.nm 6), (.nm 7)] [] []))) [(.ret (some (.cst (.bool false))))] [])])]),
  (.ret (some (.cst (.bool true))))]⟩
def b_0 : Fd := ⟨0, 0, []⟩
def fns0 : List Fd := [b_is_whole, b_is_from, b_is_among, b_are_rising, b_are_letters, b_is_word, b_is_code, b_is_row, b_common, b_reduced, b_minus, b_times, b_need_day, b_is_custom, b_nearest]
def fns1 : List Fd := [b_whole_by, b_round_by, b_is_currency, b_is_rate, b_is_tax, b_is_custom_row, b_are_few, b_are_currencies, b_are_rates, b_are_taxes, b_are_customs, b_codes_of, b_are_rules, b_need_rules, b_need_coins]
def fns2 : List Fd := [b_custom_at, b_rate_at, b_is_road, b_need_road, b_rates_of, b_paper_by, b_worth_by, b_need_case, b_along, b_worth, b_l_cell_at, b_l_state, b_l_take, b_l_low, b_l_under]
def fns3 : List Fd := [b_l_coins, b_l_codes, b_l_rates, b_l_customs, b_l_rules, b_l_when, b_l_names, b_l_rate, b_l_near, b_l_way, b_0, b_0, b_0, b_0, b_plus]
def fns4 : List Fd := [b_need_code, b_rate, b_need_same_ends, b_roundings_by, b_is_like, b_is_along, b_between, b_l_plus, b_l_less, b_l_times, b_l_mate, b_l_paper_right, b_l_right_2, b_law_k84]
def fns : List Fd := fns0 ++ (fns1 ++ (fns2 ++ (fns3 ++ (fns4))))
end Mp.Lib
end

/-! ## Head_k84 -/
section
set_option linter.all false
set_option maxRecDepth 100000
set_option maxHeartbeats 0
namespace Mp.K84
open PySem PySem.Spec PyProof.Rows L2 Mp

def gls0 : List (Str × D) := [("SMALL", (.str "abcdefghijklmnopqrstuvwxyz")),
  ("MOST_LETTERS", (.int (8))),
  ("CODE_LETTERS", (.int (3))),
  ("NOUGHT", (.tuple [(.int (0)), (.int (1))])),
  ("LAST_DAY", (.int (9999))),
  ("CUSTOMS", (.tuple [(.str "down"), (.str "even"), (.str "far"), (.str "in"), (.str "out"), (.str "up")])),
  ("MOST_CURRENCIES", (.int (5))),
  ("MOST_PLACES", (.int (3))),
  ("MOST_CASH", (.int (100))),
  ("MOST_RATES", (.int (20))),
  ("MOST_RATE", (.int (100000))),
  ("MOST_TAXES", (.int (12)))]
def gls1 : List (Str × D) := [("MOST_BOTTOM", (.int (1000))),
  ("MOST_CUSTOMS", (.int (5))),
  ("WAYS", (.tuple [(.str "on"), (.str "within")])),
  ("PLAIN_CUSTOM", (.str "even")),
  ("ONE", (.tuple [(.int (1)), (.int (1))])),
  ("MOST_CODES", (.int (6)))]
def gls : List (Str × D) := gls0 ++ gls1
def clss0 : List Str := ["CoinError",
  "NoThing",
  "NoDay",
  "NoRules",
  "NoCoins",
  "NoCode",
  "NoRoad"]
def clss : List Str := clss0
def dn_is_whole : Dn := ⟨"is_whole", 12, ["thing"], ⟨0, ["thing"], [(1, [])], []⟩, [], [], Lib.b_is_whole⟩
def dn_is_from : Dn := ⟨"is_from", 13, ["thing", "least"], ⟨1, ["thing", "least"], [(2, [])], []⟩, [], [], Lib.b_is_from⟩
def dn_is_among : Dn := ⟨"is_among", 14, ["thing", "least", "most"], ⟨2, ["thing", "least", "most"], [(3, [])], []⟩, [], [], Lib.b_is_among⟩
def dn_are_rising : Dn := ⟨"are_rising", 15, ["some", "one", "later"], ⟨3, ["some"], [(1, [])], []⟩, [], [], Lib.b_are_rising⟩
def dn_are_letters : Dn := ⟨"are_letters", 16, ["thing", "least", "most", "sign"], ⟨4, ["thing", "least", "most"], [(3, [])], []⟩, [], [], Lib.b_are_letters⟩
def dn_is_word : Dn := ⟨"is_word", 17, ["thing"], ⟨5, ["thing"], [(1, [])], []⟩, [], [], Lib.b_is_word⟩
def dn_is_code : Dn := ⟨"is_code", 18, ["thing"], ⟨6, ["thing"], [(1, [])], []⟩, [], [], Lib.b_is_code⟩
def dn_is_row : Dn := ⟨"is_row", 19, ["thing", "size"], ⟨7, ["thing", "size"], [(2, [])], []⟩, [], [], Lib.b_is_row⟩
def dn_common : Dn := ⟨"common", 22, ["one", "other"], ⟨8, ["one", "other"], [(2, [])], []⟩, [], [], Lib.b_common⟩
def dn_reduced : Dn := ⟨"reduced", 23, ["top", "bottom", "by"], ⟨9, ["top", "bottom"], [(2, [])], []⟩, [], [], Lib.b_reduced⟩
def dn_plus : Dn := ⟨"plus", 24, ["one", "other"], ⟨59, ["one", "other"], [(2, [])], []⟩, [], [], Lib.b_plus⟩
def dn_minus : Dn := ⟨"minus", 25, ["one", "other"], ⟨10, ["one", "other"], [(2, [])], []⟩, [], [], Lib.b_minus⟩
def dn_times : Dn := ⟨"times", 26, ["one", "other"], ⟨11, ["one", "other"], [(2, [])], []⟩, [], [], Lib.b_times⟩
def dn_need_day : Dn := ⟨"need_day", 29, ["thing"], ⟨12, ["thing"], [(1, [])], []⟩, [], [], Lib.b_need_day⟩
def dn_is_custom : Dn := ⟨"is_custom", 32, ["thing"], ⟨13, ["thing"], [(1, [])], []⟩, [], [], Lib.b_is_custom⟩
def dn_nearest : Dn := ⟨"nearest", 33, ["top", "bottom", "custom", "low", "twice"], ⟨14, ["top", "bottom", "custom"], [(3, [])], []⟩, [], [], Lib.b_nearest⟩
def dn_whole_by : Dn := ⟨"whole_by", 34, ["top", "bottom", "custom", "low", "high"], ⟨15, ["top", "bottom", "custom"], [(3, [])], []⟩, [], [], Lib.b_whole_by⟩
def dn_round_by : Dn := ⟨"round_by", 35, ["top", "bottom", "custom", "step", "told"], ⟨16, ["top", "bottom", "custom", "step"], [(3, [])], [("step", (.int (1)))]⟩, [.int (1)], [], Lib.b_round_by⟩
def dn_is_currency : Dn := ⟨"is_currency", 47, ["thing"], ⟨17, ["thing"], [(1, [])], []⟩, [], [], Lib.b_is_currency⟩
def dn_is_rate : Dn := ⟨"is_rate", 48, ["thing", "codes", "one"], ⟨18, ["thing", "codes"], [(2, [])], []⟩, [], [], Lib.b_is_rate⟩
def dn_is_tax : Dn := ⟨"is_tax", 49, ["thing", "sort", "day", "top", "bottom", "way"], ⟨19, ["thing"], [(1, [])], []⟩, [], [], Lib.b_is_tax⟩
def dn_is_custom_row : Dn := ⟨"is_custom_row", 50, ["thing"], ⟨20, ["thing"], [(1, [])], []⟩, [], [], Lib.b_is_custom_row⟩
def dn_are_few : Dn := ⟨"are_few", 51, ["thing", "least", "most"], ⟨21, ["thing", "least", "most"], [(3, [])], []⟩, [], [], Lib.b_are_few⟩
def dn_are_currencies : Dn := ⟨"are_currencies", 52, ["thing", "one"], ⟨22, ["thing"], [(1, [])], []⟩, [], [], Lib.b_are_currencies⟩
def dn_are_rates : Dn := ⟨"are_rates", 53, ["thing", "codes", "one"], ⟨23, ["thing", "codes"], [(2, [])], []⟩, [], [], Lib.b_are_rates⟩
def dn_are_taxes : Dn := ⟨"are_taxes", 54, ["thing", "one"], ⟨24, ["thing"], [(1, [])], []⟩, [], [], Lib.b_are_taxes⟩
def dn_are_customs : Dn := ⟨"are_customs", 55, ["thing", "one"], ⟨25, ["thing"], [(1, [])], []⟩, [], [], Lib.b_are_customs⟩
def dn_are_rules : Dn := ⟨"are_rules", 56, ["thing"], ⟨27, ["thing"], [(1, [])], []⟩, [], [], Lib.b_are_rules⟩
def dn_need_rules : Dn := ⟨"need_rules", 57, ["thing"], ⟨28, ["thing"], [(1, [])], []⟩, [], [], Lib.b_need_rules⟩
def dn_codes_of : Dn := ⟨"codes_of", 58, ["rules", "one"], ⟨26, ["rules"], [(1, [])], []⟩, [], [], Lib.b_codes_of⟩
def dn_need_code : Dn := ⟨"need_code", 59, ["rules", "thing"], ⟨60, ["rules", "thing"], [(2, [])], []⟩, [], [], Lib.b_need_code⟩
def dn_need_coins : Dn := ⟨"need_coins", 60, ["thing", "least", "most"], ⟨29, ["thing", "least", "most"], [(1, [])], [("least", .none), ("most", .none)]⟩, [.non, .non], [], Lib.b_need_coins⟩
def dn_custom_at : Dn := ⟨"custom_at", 61, ["rules", "day", "some", "first", "custom"], ⟨30, ["rules", "day"], [(2, [])], []⟩, [], [], Lib.b_custom_at⟩
def dn_rate_at : Dn := ⟨"rate_at", 64, ["rules", "day", "one", "other", "pair", "rows", "low", "high", "begun", "top", "bottom", "row"], ⟨31, ["rules", "day", "one", "other"], [(4, [])], []⟩, [], [], Lib.b_rate_at⟩
def dn_rate : Dn := ⟨"rate", 65, ["rules", "day", "one", "other"], ⟨61, ["rules", "day", "one", "other"], [(4, [])], []⟩, [], [], Lib.b_rate⟩
def dn_is_road : Dn := ⟨"is_road", 68, ["rules", "day", "thing", "codes", "row", "one", "other"], ⟨32, ["rules", "day", "thing"], [(3, [])], []⟩, [], [], Lib.b_is_road⟩
def dn_need_road : Dn := ⟨"need_road", 69, ["rules", "day", "thing"], ⟨33, ["rules", "day", "thing"], [(3, [])], []⟩, [], [], Lib.b_need_road⟩
def dn_need_same_ends : Dn := ⟨"need_same_ends", 70, ["road", "other"], ⟨62, ["road", "other"], [(2, [])], []⟩, [], [], Lib.b_need_same_ends⟩
def dn_rates_of : Dn := ⟨"rates_of", 71, ["rules", "day", "road", "one", "other"], ⟨34, ["rules", "day", "road"], [(3, [])], []⟩, [], [], Lib.b_rates_of⟩
def dn_paper_by : Dn := ⟨"paper_by", 72, ["custom", "rates", "coins", "road", "found", "one", "other", "by", "exact", "told", "rest"], ⟨35, ["custom", "rates", "coins", "road"], [(4, [])], []⟩, [], [], Lib.b_paper_by⟩
def dn_worth_by : Dn := ⟨"worth_by", 73, ["rates", "coins", "found", "by"], ⟨36, ["rates", "coins"], [(2, [])], []⟩, [], [], Lib.b_worth_by⟩
def dn_roundings_by : Dn := ⟨"roundings_by", 74, ["rates", "paper", "found", "at", "row", "behind", "by"], ⟨63, ["rates", "paper"], [(2, [])], []⟩, [], [], Lib.b_roundings_by⟩
def dn_is_like : Dn := ⟨"is_like", 75, ["thing", "due", "one", "other"], ⟨64, ["thing", "due"], [(2, [])], []⟩, [], [], Lib.b_is_like⟩
def dn_need_case : Dn := ⟨"need_case", 76, ["rules", "day", "coins", "road"], ⟨37, ["rules", "day", "coins", "road"], [(4, [])], []⟩, [], [], Lib.b_need_case⟩
def dn_along : Dn := ⟨"along", 77, ["rules", "day", "coins", "road"], ⟨38, ["rules", "day", "coins", "road"], [(4, [])], []⟩, [], [], Lib.b_along⟩
def dn_is_along : Dn := ⟨"is_along", 78, ["rules", "day", "coins", "road", "thing"], ⟨65, ["rules", "day", "coins", "road", "thing"], [(5, [])], []⟩, [], [], Lib.b_is_along⟩
def dn_worth : Dn := ⟨"worth", 79, ["rules", "day", "coins", "road"], ⟨39, ["rules", "day", "coins", "road"], [(4, [])], []⟩, [], [], Lib.b_worth⟩
def dn_between : Dn := ⟨"between", 80, ["rules", "day", "coins", "road", "other", "custom", "ends", "worths", "rounded_away", "one", "rates", "paper", "pair"], ⟨66, ["rules", "day", "coins", "road", "other"], [(5, [])], []⟩, [], [], Lib.b_between⟩
def dn_law_cell_at : Dn := ⟨"_law_cell_at", 82, ["_law_script", "_law_k"], ⟨40, ["_law_script", "_law_k"], [(2, [])], []⟩, [], [], Lib.b_l_cell_at⟩
def dn_law_state : Dn := ⟨"_law_state", 83, ["_law_script", "_law_k", "_law_cell"], ⟨41, ["_law_script", "_law_k"], [(2, [])], []⟩, [], [], Lib.b_l_state⟩
def dn_law_take : Dn := ⟨"_law_take", 84, ["_law_state_here", "_law_far", "_law_found", "_law_stirred"], ⟨42, ["_law_state_here", "_law_far"], [(2, [])], []⟩, [], [], Lib.b_l_take⟩
def dn_law_low : Dn := ⟨"_law_low", 85, ["_law_top", "_law_bottom", "_law_one", "_law_other"], ⟨43, ["_law_top", "_law_bottom"], [(2, [])], []⟩, [], [], Lib.b_l_low⟩
def dn_law_plus : Dn := ⟨"_law_plus", 86, ["_law_one", "_law_other"], ⟨67, ["_law_one", "_law_other"], [(2, [])], []⟩, [], [], Lib.b_l_plus⟩
def dn_law_less : Dn := ⟨"_law_less", 87, ["_law_one", "_law_other"], ⟨68, ["_law_one", "_law_other"], [(2, [])], []⟩, [], [], Lib.b_l_less⟩
def dn_law_times : Dn := ⟨"_law_times", 88, ["_law_one", "_law_other"], ⟨69, ["_law_one", "_law_other"], [(2, [])], []⟩, [], [], Lib.b_l_times⟩
def dn_law_under : Dn := ⟨"_law_under", 89, ["_law_one", "_law_other"], ⟨44, ["_law_one", "_law_other"], [(2, [])], []⟩, [], [], Lib.b_l_under⟩
def dn_law_coins : Dn := ⟨"_law_coins", 90, ["_law_state_here", "_law_few", "_law_many"], ⟨45, ["_law_state_here"], [(1, [])], []⟩, [], [], Lib.b_l_coins⟩
def dn_law_codes : Dn := ⟨"_law_codes", 91, ["_law_state_here", "_law_left", "_law_turn"], ⟨46, ["_law_state_here"], [(1, [])], []⟩, [], [], Lib.b_l_codes⟩
def dn_law_rates : Dn := ⟨"_law_rates", 92, ["_law_state_here", "_law_codes_here", "_law_most", "_law_worths", "_law_trip", "_law_found", "_law_at", "_law_one", "_law_to", "_law_turn", "_law_when_here", "_law_pair", "_law_rows", "_law_code", "_law_key"], ⟨47, ["_law_state_here", "_law_codes_here", "_law_most"], [(3, [])], []⟩, [], [], Lib.b_l_rates⟩
def dn_law_customs : Dn := ⟨"_law_customs", 93, ["_law_state_here", "_law_whens", "_law_words", "_law_found", "_law_turn", "_law_when_here"], ⟨48, ["_law_state_here"], [(1, [])], []⟩, [], [], Lib.b_l_customs⟩
def dn_law_rules : Dn := ⟨"_law_rules", 94, ["_law_state_here", "_law_most", "_law_codes_here", "_law_money", "_law_taxes", "_law_code"], ⟨49, ["_law_state_here", "_law_most"], [(2, [])], []⟩, [], [], Lib.b_l_rules⟩
def dn_law_when : Dn := ⟨"_law_when", 95, ["_law_state_here"], ⟨50, ["_law_state_here"], [(1, [])], []⟩, [], [], Lib.b_l_when⟩
def dn_law_names : Dn := ⟨"_law_names", 96, ["_law_acts", "_law_row"], ⟨51, ["_law_acts"], [(1, [])], []⟩, [], [], Lib.b_l_names⟩
def dn_law_rate : Dn := ⟨"_law_rate", 97, ["_law_acts", "_law_when_here", "_law_one", "_law_other", "_law_found", "_law_best", "_law_low_here", "_law_high", "_law_begun", "_law_top", "_law_bottom"], ⟨52, ["_law_acts", "_law_when_here", "_law_one", "_law_other"], [(4, [])], []⟩, [], [], Lib.b_l_rate⟩
def dn_law_near : Dn := ⟨"_law_near", 98, ["_law_acts", "_law_when_here", "_law_code", "_law_one"], ⟨53, ["_law_acts", "_law_when_here", "_law_code"], [(3, [])], []⟩, [], [], Lib.b_l_near⟩
def dn_law_way : Dn := ⟨"_law_way", 99, ["_law_state_here", "_law_acts", "_law_when_here", "_law_most", "_law_codes_here", "_law_trip", "_law_turn", "_law_some"], ⟨54, ["_law_state_here", "_law_acts", "_law_when_here", "_law_most"], [(4, [])], []⟩, [], [], Lib.b_l_way⟩
def dn_law_mate : Dn := ⟨"_law_mate", 100, ["_law_state_here", "_law_acts", "_law_when_here", "_law_trip", "_law_turn", "_law_other", "_law_straight"], ⟨70, ["_law_state_here", "_law_acts", "_law_when_here", "_law_trip"], [(4, [])], []⟩, [], [], Lib.b_l_mate⟩
def dn_law_paper_right : Dn := ⟨"_law_paper_right", 101, ["_law_acts", "_law_when_here", "_law_cash", "_law_trip", "_law_paper", "_law_here", "_law_one", "_law_other", "_law_coming", "_law_exact", "_law_told", "_law_left", "_law_due", "_law_row"], ⟨71, ["_law_acts", "_law_when_here", "_law_cash", "_law_trip"], [(4, [])], []⟩, [], [], Lib.b_l_paper_right⟩
def dn_law_right : Dn := ⟨"_law_right", 102, ["_law_state_here", "_law_acts", "_law_when_here", "_law_cash", "_law_trip", "_law_other", "_law_mine", "_law_its", "_law_apart", "_law_exact", "_law_away", "_law_back", "_law_top", "_law_bottom"], ⟨72, ["_law_state_here", "_law_acts", "_law_when_here", "_law_cash", "_law_trip"], [(5, [])], []⟩, [], [], Lib.b_l_right_2⟩
def dn_law : Dn := ⟨"law", 103, ["_law_script", "_law_k", "_law_state_here", "_law_turn", "_law_acts", "_law_when_here", "_law_cash", "_law_trip"], ⟨73, ["_law_script"], [], []⟩, [], [], Lib.b_law_k84⟩
def ds0 : List Dn := [dn_is_whole, dn_is_from, dn_is_among, dn_are_rising, dn_are_letters, dn_is_word, dn_is_code, dn_is_row, dn_common, dn_reduced, dn_plus, dn_minus]
def ds1 : List Dn := [dn_times, dn_need_day, dn_is_custom, dn_nearest, dn_whole_by, dn_round_by, dn_is_currency, dn_is_rate, dn_is_tax, dn_is_custom_row, dn_are_few, dn_are_currencies]
def ds2 : List Dn := [dn_are_rates, dn_are_taxes, dn_are_customs, dn_are_rules, dn_need_rules, dn_codes_of, dn_need_code, dn_need_coins, dn_custom_at, dn_rate_at, dn_rate, dn_is_road]
def ds3 : List Dn := [dn_need_road, dn_need_same_ends, dn_rates_of, dn_paper_by, dn_worth_by, dn_roundings_by, dn_is_like, dn_need_case, dn_along, dn_is_along, dn_worth, dn_between]
def ds4 : List Dn := [dn_law_cell_at, dn_law_state, dn_law_take, dn_law_low, dn_law_plus, dn_law_less, dn_law_times, dn_law_under, dn_law_coins, dn_law_codes, dn_law_rates, dn_law_customs]
def ds5 : List Dn := [dn_law_rules, dn_law_when, dn_law_names, dn_law_rate, dn_law_near, dn_law_way, dn_law_mate, dn_law_paper_right, dn_law_right, dn_law]
def ds : List Dn := ds0 ++ (ds1 ++ (ds2 ++ (ds3 ++ (ds4 ++ (ds5)))))
abbrev fns : List Fd := mkFns Lib.fns []
def L : Law := ⟨PySem.Challenge.pw_coinlaw_k84_whole_two_roads_differ_by_ro, gls, clss, ds, fns⟩
theorem ok_dn : ds.all (dnB L.P) = true := by kernel_rfl
theorem ok_fns : ds.map (fun d => L.fns[d.sg.ix]?) = ds.map (fun d => some d.fd) := by kernel_rfl
theorem ok_cb : ds.map (fun d => cB (L.tb.ct d.N) (defScope (stAt L.P d.tp)) (defBody (stAt L.P d.tp))) = ds.map (fun d => some d.fd.body) := by kernel_rfl
abbrev Bd (d : Dn) : Prop := ∀ (K : PySem.W.Frag) (f : Addr) (fd : FuncData), FunD K d.nm d.nm (defArgs (stAt L.P d.tp)) (defBody (stAt L.P d.tp)) (defScope (stAt L.P d.tp)) ((d.dd L.P).dvs K) ((d.dd L.P).kws K) f fd → BdOk K fd d.sg
theorem bd_round_by : Bd dn_round_by := by
  intro K f fd F n hn sel hs
  have hn : n = 3 := by simpa [dn_round_by] using hn
  subst hn
  · obtain ⟨ds, h1, h2⟩ := F.binds1 (ps := ["top", "bottom", "custom", "step"]) 3 0 (List.cons_ne_nil _ _) rfl fun T kV doc pm an cdv ct us its hl hi => match us, its, hl, hi with | [u0, u1, u2], [d0], _, _ => ⟨_, rfl, rfl⟩
    have hs : sel = [Sum.inr (.int (1))] := Option.some.inj (hs.symm.trans (show selOf dn_round_by.sg 3 = some [Sum.inr (.int (1))] from rfl))
    subst hs
    exact ⟨ds, _, [(.int (1))], h2, h1, rfl, fun F H => .cons (.int 1) .nil, rfl⟩
theorem bd_need_coins : Bd dn_need_coins := by
  intro K f fd F n hn sel hs
  have hn : n = 1 := by simpa [dn_need_coins] using hn
  subst hn
  · obtain ⟨ds, h1, h2⟩ := F.binds1 (ps := ["thing", "least", "most"]) 1 0 (List.cons_ne_nil _ _) rfl fun T kV doc pm an cdv ct us its hl hi => match us, its, hl, hi with | [u0], [d0, d1], _, _ => ⟨_, rfl, rfl⟩
    have hs : sel = [Sum.inr .none, Sum.inr .none] := Option.some.inj (hs.symm.trans (show selOf dn_need_coins.sg 1 = some [Sum.inr .none, Sum.inr .none] from rfl))
    subst hs
    exact ⟨ds, _, [.none, .none], h2, h1, rfl, fun F H => .cons .non (.cons .non .nil), rfl⟩
theorem ok_bd : ∀ d ∈ ds, ¬ (d.dfl = [] ∧ d.kwd = []) → Bd d := by
  refine bd_of [17, 31] (by kernel_rfl) fun i hi d hd => ?_
  have hi : i = 17 ∨ i = 31 := by simpa using hi
  rcases hi with rfl | rfl
  · have e : ds[17]? = some dn_round_by := by rfl
    rw [e] at hd
    cases hd
    exact bd_round_by
  · have e : ds[31]? = some dn_need_coins := by rfl
    rw [e] at hd
    cases hd
    exact bd_need_coins
theorem ok : L.Ok := ⟨ok_dn, ok_fns, ok_cb, ok_bd⟩
def loose0 : List Str := ["CoinError", "NoThing", "NoDay", "NoRules", "NoCoins", "NoCode", "NoRoad", "SMALL", "MOST_LETTERS", "CODE_LETTERS", "is_whole", "is_from", "is_among", "are_rising", "are_letters", "is_word", "is_code", "is_row"]
def loose1 : List Str := ["NOUGHT", "common", "reduced", "plus", "minus", "times", "LAST_DAY", "need_day", "CUSTOMS", "is_custom", "nearest", "whole_by", "round_by", "MOST_CURRENCIES", "MOST_PLACES", "MOST_CASH", "MOST_RATES", "MOST_RATE"]
def loose2 : List Str := ["MOST_TAXES", "MOST_BOTTOM", "MOST_CUSTOMS", "WAYS", "PLAIN_CUSTOM", "is_currency", "is_rate", "is_tax", "is_custom_row", "are_few", "are_currencies", "are_rates", "are_taxes", "are_customs", "are_rules", "need_rules", "codes_of", "need_code"]
def loose3 : List Str := ["need_coins", "custom_at", "ONE", "rate_at", "rate", "MOST_CODES", "is_road", "need_road", "need_same_ends", "rates_of", "paper_by", "worth_by", "roundings_by", "is_like", "need_case", "along", "is_along", "worth"]
def loose4 : List Str := ["between", "_law_cell_at", "_law_state", "_law_take", "_law_low", "_law_plus", "_law_less", "_law_times", "_law_under", "_law_coins", "_law_codes", "_law_rates", "_law_customs", "_law_rules", "_law_when", "_law_names", "_law_rate", "_law_near"]
def loose5 : List Str := ["_law_way", "_law_mate", "_law_paper_right", "_law_right"]
def loose : List Str := loose0 ++ loose1 ++ loose2 ++ loose3 ++ loose4 ++ loose5
abbrev R : PySem.W.OpenRow := PySem.W.OpenLaw.row PySem.Challenge.rw_coinlaw_k84_whole_two_roads_differ_by_ro
abbrev hk : PySem.W.Hook := hookM L 2
def ob (s : PySem.W.SharedT) : AlM := obsMG L 2 (HandSHeadRun.getT s)
theorem ob_eq (s : PySem.W.SharedT) : ob s = hk.obs s.abs := obsMG_eq (HandSHeadRun.getT_eq s)
theorem run (w : World) : HandSHeadRun.RunEq R (PySem.W.view R.prog [103]) hk ob 4000 loose w := by
  intro os
  kernel_rfl
/-- what is left to be shown of the law: its run by the small language -/
def Runs : Prop := ∀ ns : List Int, ns.length ≤ 63 → ∃ os', callD fns 30 73 [.v (.list (ns.map .int))] = some (.v (.bool true), os')
end Mp.K84
open PySem PySem.W PySem.Calls PyProof.Rows
theorem Mp.K84.holds_of (runs : Mp.K84.Runs) : PySem.Challenge.rw_coinlaw_k84_whole_two_roads_differ_by_ro.Holds := by
  w_on; o_law
  refine HandSHeadRun.head_any (r := OpenLaw.row PySem.Challenge.rw_coinlaw_k84_whole_two_roads_differ_by_ro) (q := view (OpenLaw.row PySem.Challenge.rw_coinlaw_k84_whole_two_roads_differ_by_ro).prog [103]) (H := Mp.K84.hk) (ob := Mp.K84.ob) (M := 4000) (loose := Mp.K84.loose) (d := HandSHeadRun.topDef (OpenLaw.row PySem.Challenge.rw_coinlaw_k84_whole_two_roads_differ_by_ro).prog 103) (kwd := []) Mp.K84.ob_eq
    (by kernel_rfl) (fun s => by kernel_rfl) Mp.K84.run (by kernel_rfl) (by kernel_rfl) (by kernel_rfl) (by rfl) (by first | assumption | decide +kernel) (by decide +kernel) ⟨rfl, rfl, rfl, rfl, rfl, by decide +kernel⟩ ?hw ?hc
  case hw => w_witness2
  case hc =>
    refine L2.walk_ofE (l := PySem.Challenge.rw_coinlaw_k84_whole_two_roads_differ_by_ro) (n := 63) (k := 30) (x := "_law_script") (CX := L2.CX0) rfl (by decide) (by kernel_rfl) ⟨rfl, by decide, by decide⟩ ?F (fun _ _ _ _ z => z)
    intro w mg fa h Y G hmg0
    obtain ⟨K, KX, c, ex⟩ := Y
    have hmg : mg ("law" : PySem.Str) = some (.ref fa) := by
      have e : (HandSHeadRun.topDef (OpenLaw.row PySem.Challenge.rw_coinlaw_k84_whole_two_roads_differ_by_ro).prog 103).name = ("law" : PySem.Str) := by kernel_rfl
      rw [← e]
      exact hmg0
    exact Mp.Law.law Mp.K84.ok KX G c ex (d := Mp.K84.dn_law) (List.mem_of_getElem? (i := 69) (by rfl)) hmg ⟨rfl, rfl, rfl⟩ 30 63 runs (by decide)
end

/-! ## MpWp -/
section
set_option linter.all false
set_option maxRecDepth 100000
namespace Mp
open PySem
/-! ### one step of the run -/
section
variable {g : Ga} {r : En}
theorem at_z {x : Option O} : En.at (x :: r) 0 = x := by cases x <;> rfl
theorem at_s {x : Option O} {n : Nat} : En.at (x :: r) (n + 1) = En.at r n := rfl
theorem set_z {x y : Option O} : List.set (x :: r) 0 y = y :: r := rfl
theorem set_s {x y : Option O} {n : Nat} : List.set (x :: r) (n + 1) y = x :: List.set r n y := rfl
theorem callS {fns : List Fd} {n f : Nat} {os : List O} {fd : Fd} (h : fns[f]? = some fd) : callD fns (n + 1) f os = runF (callD fns n) fd os := by
  rw [callD, h]
/-- what is reckoned behind is looked at later: its place hangs on it, so no rewriting goes in -/
structure Wt {α β : Type} (f : α → Option β) : Type where
def bnd {α β : Type} (f : α → Option β) (_ : Wt f) (x : Option α) : Option β := x.bind f
theorem bnd_p {α β : Type} {x : Option α} {f : α → Option β} : x.bind f = bnd f ⟨⟩ x := rfl
theorem bnd_s {α β : Type} {a : α} {f : α → Option β} {w : Wt f} : bnd f w (some a) = f a := rfl
theorem bnd_n {α β : Type} {f : α → Option β} {w : Wt f} : bnd f w none = none := rfl
def seqF (k : En → Option (Fl × En)) : Option (Fl × En) → Option (Fl × En)
  | some (.nx, r) => k r
  | some (.bk, r) => some (.bk, r)
  | some (.ct, r) => some (.ct, r)
  | some (.rt o, r) => some (.rt o, r)
  | none => none
theorem exs_c {pn : List Nat} {s : CS} {ss : List CS} : exs g pn (s :: ss) r = seqF (exs g pn ss) (ex g pn s r) := by
  rw [exs]
  rfl
theorem exs_n {pn : List Nat} : exs g pn [] r = some (.nx, r) := by rw [exs]
theorem seqF_nx {k : En → Option (Fl × En)} : seqF k (some (.nx, r)) = k r := rfl
theorem seqF_rt {k : En → Option (Fl × En)} {o : O} : seqF k (some (.rt o, r)) = some (.rt o, r) := rfl
theorem seqF_bk {k : En → Option (Fl × En)} : seqF k (some (.bk, r)) = some (.bk, r) := rfl
theorem seqF_ct {k : En → Option (Fl × En)} : seqF k (some (.ct, r)) = some (.ct, r) := rfl
def endF (os : List O) : Option (Fl × En) → Option (O × List O)
  | some (.nx, r) => (outs r os 0).bind fun t => some (.v .none, t)
  | some (.rt o, r) => (outs r os 0).bind fun t => some (o, t)
  | _ => none
theorem runF_e {np ns : Nat} {body : List CS} {os : List O} : runF g ⟨np, ns, body⟩ os = if os.length = np then endF os (exs g (ownIx os 0) body (os.map some ++ List.replicate (ns - np) none)) else none := by
  unfold runF
  show (if os.length = np then _ else none) = _
  split
  · generalize exs g (ownIx os 0) body (os.map some ++ List.replicate (ns - np) none) = x
    cases x with
    | none => rfl
    | some p =>
      obtain ⟨fl, r⟩ := p
      cases fl with
      | nx =>
        show (outs r os 0).map _ = (outs r os 0).bind _
        cases outs r os 0 <;> rfl
      | rt o =>
        show (outs r os 0).map _ = (outs r os 0).bind _
        cases outs r os 0 <;> rfl
      | bk => rfl
      | ct => rfl
  · rfl
theorem endF_nx {os : List O} : endF os (some (.nx, r)) = (outs r os 0).bind fun t => some (.v .none, t) := rfl
theorem endF_rt {os : List O} {o : O} : endF os (some (.rt o, r)) = (outs r os 0).bind fun t => some (o, t) := rfl
theorem arB_cst {d : D} {o1 : O} {r1 : En} : arB (.cst d) (some (o1, r1)) r = some (.v o1, r1) := rfl
theorem arC_cst {d : D} {o1 : O} {r1 : En} : arC (.cst d) (some (o1, r1)) r = some (.v (.v o1.d), r1) := rfl
theorem arB_bin {op : BOp} {a : CE} {b : CE} {o1 : O} {r1 : En} : arB (.bin op a b) (some (o1, r1)) r = some (.v o1, r1) := rfl
theorem arC_bin {op : BOp} {a : CE} {b : CE} {o1 : O} {r1 : En} : arC (.bin op a b) (some (o1, r1)) r = some (.v (.v o1.d), r1) := rfl
theorem arB_neg {a : CE} {o1 : O} {r1 : En} : arB (.neg a) (some (o1, r1)) r = some (.v o1, r1) := rfl
theorem arC_neg {a : CE} {o1 : O} {r1 : En} : arC (.neg a) (some (o1, r1)) r = some (.v (.v o1.d), r1) := rfl
theorem arB_not {a : CE} {o1 : O} {r1 : En} : arB (.not a) (some (o1, r1)) r = some (.v o1, r1) := rfl
theorem arC_not {a : CE} {o1 : O} {r1 : En} : arC (.not a) (some (o1, r1)) r = some (.v (.v o1.d), r1) := rfl
theorem arB_cmp {op : COp} {a : CE} {b : CE} {o1 : O} {r1 : En} : arB (.cmp op a b) (some (o1, r1)) r = some (.v o1, r1) := rfl
theorem arC_cmp {op : COp} {a : CE} {b : CE} {o1 : O} {r1 : En} : arC (.cmp op a b) (some (o1, r1)) r = some (.v (.v o1.d), r1) := rfl
theorem arB_chn {o : COp} {p : COp} {a : CE} {b : CE} {c : CE} {o1 : O} {r1 : En} : arB (.chn o p a b c) (some (o1, r1)) r = some (.v o1, r1) := rfl
theorem arC_chn {o : COp} {p : COp} {a : CE} {b : CE} {c : CE} {o1 : O} {r1 : En} : arC (.chn o p a b c) (some (o1, r1)) r = some (.v (.v o1.d), r1) := rfl
theorem arB_and {a : CE} {b : CE} {o1 : O} {r1 : En} : arB (.and a b) (some (o1, r1)) r = some (.v o1, r1) := rfl
theorem arC_and {a : CE} {b : CE} {o1 : O} {r1 : En} : arC (.and a b) (some (o1, r1)) r = some (.v (.v o1.d), r1) := rfl
theorem arB_or {a : CE} {b : CE} {o1 : O} {r1 : En} : arB (.or a b) (some (o1, r1)) r = some (.v o1, r1) := rfl
theorem arC_or {a : CE} {b : CE} {o1 : O} {r1 : En} : arC (.or a b) (some (o1, r1)) r = some (.v (.v o1.d), r1) := rfl
theorem arB_ife {a : CE} {b : CE} {c : CE} {o1 : O} {r1 : En} : arB (.ife a b c) (some (o1, r1)) r = some (.v o1, r1) := rfl
theorem arC_ife {a : CE} {b : CE} {c : CE} {o1 : O} {r1 : En} : arC (.ife a b c) (some (o1, r1)) r = some (.v (.v o1.d), r1) := rfl
theorem arB_tup {es : List CE} {o1 : O} {r1 : En} : arB (.tup es) (some (o1, r1)) r = some (.v o1, r1) := rfl
theorem arC_tup {es : List CE} {o1 : O} {r1 : En} : arC (.tup es) (some (o1, r1)) r = some (.v (.v o1.d), r1) := rfl
theorem arB_lst {es : List CE} {o1 : O} {r1 : En} : arB (.lst es) (some (o1, r1)) r = some (.v o1, r1) := rfl
theorem arC_lst {es : List CE} {o1 : O} {r1 : En} : arC (.lst es) (some (o1, r1)) r = some (.v (.v o1.d), r1) := rfl
theorem arB_dct {es : List CE} {o1 : O} {r1 : En} : arB (.dct es) (some (o1, r1)) r = some (.v o1, r1) := rfl
theorem arC_dct {es : List CE} {o1 : O} {r1 : En} : arC (.dct es) (some (o1, r1)) r = some (.v (.v o1.d), r1) := rfl
theorem arB_idx {a : CE} {b : CE} {o1 : O} {r1 : En} : arB (.idx a b) (some (o1, r1)) r = some (.v o1, r1) := rfl
theorem arC_idx {a : CE} {b : CE} {o1 : O} {r1 : En} : arC (.idx a b) (some (o1, r1)) r = some (.v (.v o1.d), r1) := rfl
theorem arB_slc {a : CE} {l : Option CE} {h : Option CE} {o1 : O} {r1 : En} : arB (.slc a l h) (some (o1, r1)) r = some (.v o1, r1) := rfl
theorem arC_slc {a : CE} {l : Option CE} {h : Option CE} {o1 : O} {r1 : En} : arC (.slc a l h) (some (o1, r1)) r = some (.v (.v o1.d), r1) := rfl
theorem arB_stp {a : CE} {l : Option CE} {s : Int} {o1 : O} {r1 : En} : arB (.stp a l s) (some (o1, r1)) r = some (.v o1, r1) := rfl
theorem arC_stp {a : CE} {l : Option CE} {s : Int} {o1 : O} {r1 : En} : arC (.stp a l s) (some (o1, r1)) r = some (.v (.v o1.d), r1) := rfl
theorem arB_cal {f : Nat} {es : List CE} {ks : List CE} {sel : List (Nat ⊕ D)} {o1 : O} {r1 : En} : arB (.cal f es ks sel) (some (o1, r1)) r = some (.v o1, r1) := rfl
theorem arC_cal {f : Nat} {es : List CE} {ks : List CE} {sel : List (Nat ⊕ D)} {o1 : O} {r1 : En} : arC (.cal f es ks sel) (some (o1, r1)) r = some (.v (.v o1.d), r1) := rfl
theorem arB_blt {b : Bl} {es : List CE} {o1 : O} {r1 : En} : arB (.blt b es) (some (o1, r1)) r = some (.v o1, r1) := rfl
theorem arC_blt {b : Bl} {es : List CE} {o1 : O} {r1 : En} : arC (.blt b es) (some (o1, r1)) r = some (.v (.v o1.d), r1) := rfl
theorem arB_mth {m : Mt} {a : CE} {es : List CE} {o1 : O} {r1 : En} : arB (.mth m a es) (some (o1, r1)) r = some (.v o1, r1) := rfl
theorem arC_mth {m : Mt} {a : CE} {es : List CE} {o1 : O} {r1 : En} : arC (.mth m a es) (some (o1, r1)) r = some (.v (.v o1.d), r1) := rfl
theorem arB_isi {t : Ty} {a : CE} {o1 : O} {r1 : En} : arB (.isi t a) (some (o1, r1)) r = some (.v o1, r1) := rfl
theorem arC_isi {t : Ty} {a : CE} {o1 : O} {r1 : En} : arC (.isi t a) (some (o1, r1)) r = some (.v (.v o1.d), r1) := rfl
theorem arB_lc {own : List Nat} {a : CE} {tg : Tg} {it : It} {ifs : List CE} {o1 : O} {r1 : En} : arB (.lc own a tg it ifs) (some (o1, r1)) r = some (.v o1, r1) := rfl
theorem arC_lc {own : List Nat} {a : CE} {tg : Tg} {it : It} {ifs : List CE} {o1 : O} {r1 : En} : arC (.lc own a tg it ifs) (some (o1, r1)) r = some (.v (.v o1.d), r1) := rfl
theorem arB_dc {own : List Nat} {a : CE} {b : CE} {tg : Tg} {it : It} {ifs : List CE} {o1 : O} {r1 : En} : arB (.dc own a b tg it ifs) (some (o1, r1)) r = some (.v o1, r1) := rfl
theorem arC_dc {own : List Nat} {a : CE} {b : CE} {tg : Tg} {it : It} {ifs : List CE} {o1 : O} {r1 : En} : arC (.dc own a b tg it ifs) (some (o1, r1)) r = some (.v (.v o1.d), r1) := rfl
theorem arB_pop {x : Nat} {e : Option CE} {o1 : O} {r1 : En} : arB (.pop x e) (some (o1, r1)) r = some (.v o1, r1) := rfl
theorem arC_pop {x : Nat} {e : Option CE} {o1 : O} {r1 : En} : arC (.pop x e) (some (o1, r1)) r = some (.v (.v o1.d), r1) := rfl
theorem arB_app {x : Nat} {e : CE} {o1 : O} {r1 : En} : arB (.app x e) (some (o1, r1)) r = some (.v o1, r1) := rfl
theorem arC_app {x : Nat} {e : CE} {o1 : O} {r1 : En} : arC (.app x e) (some (o1, r1)) r = some (.v (.v o1.d), r1) := rfl
theorem arB_ext {x : Nat} {e : CE} {o1 : O} {r1 : En} : arB (.ext x e) (some (o1, r1)) r = some (.v o1, r1) := rfl
theorem arC_ext {x : Nat} {e : CE} {o1 : O} {r1 : En} : arC (.ext x e) (some (o1, r1)) r = some (.v (.v o1.d), r1) := rfl
theorem arB_upd {x : Nat} {e : CE} {o1 : O} {r1 : En} : arB (.upd x e) (some (o1, r1)) r = some (.v o1, r1) := rfl
theorem arC_upd {x : Nat} {e : CE} {o1 : O} {r1 : En} : arC (.upd x e) (some (o1, r1)) r = some (.v (.v o1.d), r1) := rfl
theorem arB_fst {es : List CE} {o1 : O} {r1 : En} : arB (.fst es) (some (o1, r1)) r = some (.v o1, r1) := rfl
theorem arC_fst {es : List CE} {o1 : O} {r1 : En} : arC (.fst es) (some (o1, r1)) r = some (.v (.v o1.d), r1) := rfl
def arN (i : Nat) (r : En) : Option O → Option (Ar × En)
  | some _ => some (.s i, r)
  | none => none
theorem arB_n {i : Nat} {k} : arB (.nm i) k r = arN i r (r.at i) := by
  show (match r.at i with | some _ => _ | none => _) = _
  cases r.at i <;> rfl
theorem arC_n {i : Nat} {k} : arC (.nm i) k r = arN i r (r.at i) := by
  show (match r.at i with | some _ => _ | none => _) = _
  cases r.at i <;> rfl
theorem arN_s {i : Nat} {o : O} : arN i r (some o) = some (.s i, r) := rfl
theorem d_v {d : D} : (O.v d).d = d := rfl
theorem d_l {ds : List D} : (O.lst ds).d = .list ds := rfl
theorem d_d {ds : List (D × D)} : (O.dct ds).d = .dict ds := rfl
theorem rdA_v {o : O} : rdA r (.v o) = some o := rfl
theorem rdA_s {i : Nat} : rdA r (.s i) = r.at i := rfl
theorem idxO_t {xs : List D} {i : Int} : idxO (.v (.tuple xs)) (.v (.int i)) = (ixI xs.length i).bind fun j => xs[j]?.bind fun x => some (.v x) := rfl
theorem idxO_l {xs : List D} {i : Int} : idxO (.lst xs) (.v (.int i)) = (ixI xs.length i).bind fun j => xs[j]?.bind fun x => some (.v x) := rfl
theorem idxO_vl {xs : List D} {i : Int} : idxO (.v (.list xs)) (.v (.int i)) = (ixI xs.length i).bind fun j => xs[j]?.bind fun x => some (.v x) := rfl
theorem addO_i {i j : Int} : addO (.v (.int i)) (.v (.int j)) = some (.v (.int (i + j))) := rfl
theorem addO_t {xs ys : List D} : addO (.v (.tuple xs)) (.v (.tuple ys)) = if xs.length + ys.length ≤ SZ then some (.v (.tuple (xs ++ ys))) else none := rfl
theorem addO_l {xs ys : List D} : addO (.lst xs) (.lst ys) = if xs.length + ys.length ≤ SZ then some (.lst (xs ++ ys)) else none := rfl
theorem mulO_i {i j : Int} : mulO (.v (.int i)) (.v (.int j)) = if mulOk i j then some (.v (.int (i * j))) else none := rfl
theorem intsO_i {c : Int → Int → Bool} {f : Int → Int → Int} {i j : Int} : intsO c f (.v (.int i)) (.v (.int j)) = if c i j then some (.v (.int (f i j))) else none := rfl
theorem leO_i {i j : Int} : leO (.v (.int i)) (.v (.int j)) = some (decide (i ≤ j)) := rfl
theorem geO_i {i j : Int} : geO (.v (.int i)) (.v (.int j)) = some (decide (j ≤ i)) := rfl
theorem ltO_i {i j : Int} : ltO (.int i) (.int j) = some (decide (i < j)) := rfl
theorem gtO_i {i j : Int} : gtO (.int i) (.int j) = some (decide (j < i)) := rfl
theorem bolO_b {b : Bool} : bolO (.v (.bool b)) = some b := rfl
theorem intO_i {i : Int} : intO (.v (.int i)) = some i := rfl
theorem one_e {f : O → Option O} {o : O} : one f [o] = f o := rfl
theorem two_e {f : O → O → Option O} {o p : O} : two f [o, p] = f o p := rfl
theorem absO_i {i : Int} : absO (.v (.int i)) = some (.v (.int (if i < 0 then -i else i))) := rfl
theorem intB_i {i : Int} : intB (.v (.int i)) = some (.v (.int i)) := rfl
theorem intB_b {b : Bool} : intB (.v (.bool b)) = some (.v (.int (if b then 1 else 0))) := rfl
theorem min2_i {i j : Int} : min2O (.v (.int i)) (.v (.int j)) = some (.v (.int (if j < i then j else i))) := rfl
theorem max2_i {i j : Int} : max2O (.v (.int i)) (.v (.int j)) = some (.v (.int (if j > i then j else i))) := rfl
theorem len_t {xs : List D} : lenO (.v (.tuple xs)) = some (xs.length : Int) := rfl
theorem len_l {xs : List D} : lenO (.lst xs) = some (xs.length : Int) := rfl
theorem len_vl {xs : List D} : lenO (.v (.list xs)) = some (xs.length : Int) := rfl
theorem len_s {x : Str} : lenO (.v (.str x)) = some (x.length : Int) := rfl
theorem seqD_l {xs : List D} : seqD (.lst xs) = some xs := rfl
theorem seqD_t {xs : List D} : seqD (.v (.tuple xs)) = some xs := rfl
theorem seqD_vl {xs : List D} : seqD (.v (.list xs)) = some xs := rfl
theorem lstO_l {xs : List D} : lstO (.lst xs) = some xs := rfl
theorem lstO_vl {xs : List D} : lstO (.v (.list xs)) = some xs := rfl
theorem tupO_t {xs : List D} : tupO (.v (.tuple xs)) = some xs := rfl
theorem dctO_d {xs : List (D × D)} : dctO (.dct xs) = some xs := rfl
theorem dctO_v {xs : List (D × D)} : dctO (.v (.dict xs)) = some xs := rfl
theorem slcO_t {xs : List D} {lo hi : Option Int} : slcO (.v (.tuple xs)) lo hi = some (.v (.tuple (cutL xs lo hi))) := rfl
theorem slcO_vl {xs : List D} {lo hi : Option Int} : slcO (.v (.list xs)) lo hi = some (.lst (cutL xs lo hi)) := rfl
theorem slcO_l {xs : List D} {lo hi : Option Int} : slcO (.lst xs) lo hi = some (.lst (cutL xs lo hi)) := rfl
theorem tgOk_n {pn : List Nat} {i : Nat} : tgOk pn (.nm i) = !pn.contains i := by rw [tgOk]
theorem tgOk_t {pn : List Nat} {ts : List Tg} : tgOk pn (.tp ts) = tgsOk pn ts := by rw [tgOk]
theorem tgsOk_n {pn : List Nat} : tgsOk pn [] = true := by rw [tgsOk]
theorem tgsOk_c {pn : List Nat} {t : Tg} {ts : List Tg} : tgsOk pn (t :: ts) = (tgOk pn t && tgsOk pn ts) := by rw [tgsOk]
theorem asgT_n {i : Nat} {d : D} : asgT (.nm i) d r = some (r.set i (some (.v d))) := by rw [asgT]
theorem asgT_t {ts : List Tg} {ds : List D} : asgT (.tp ts) (.tuple ds) r = asgTs ts ds r := by rw [asgT]
theorem asgTs_n : asgTs [] [] r = some r := by rw [asgTs]
theorem asgTs_c {t : Tg} {ts : List Tg} {d : D} {ds : List D} : asgTs (t :: ts) (d :: ds) r = (asgT t d r).bind (asgTs ts ds) := by rw [asgTs]
theorem itO_l {xs : List D} : itO (.lst xs) = some xs := rfl
theorem itO_vl {xs : List D} : itO (.v (.list xs)) = some xs := rfl
theorem itO_t {xs : List D} : itO (.v (.tuple xs)) = some xs := rfl
theorem isOwn_v {d : D} : isOwn (.v d) = false := rfl
theorem isOwn_l {xs : List D} : isOwn (.lst xs) = true := rfl
theorem isOwn_d {xs : List (D × D)} : isOwn (.dct xs) = true := rfl
theorem setO_l {xs : List D} {k : Int} {v : D} : setO (.lst xs) (.int k) v = (ixSet xs k v).bind fun ys => some (O.lst ys) := by
  show (ixSet xs k v).map O.lst = _
  cases ixSet xs k v <;> rfl
theorem isOO_v {a b : D} : isOO (.v a) (.v b) = isO a b := rfl
theorem isOO_l {xs : List D} : isOO (.lst xs) (.v .none) = some false := rfl
theorem isOO_d {xs : List (D × D)} : isOO (.dct xs) (.v .none) = some false := rfl
theorem isO_n {a : D} : isO a .none = some (isNn a) := by cases a <;> rfl
theorem isO_b {a b : Bool} : isO (.bool a) (.bool b) = some (decide (a = b)) := rfl
theorem isNn_n : isNn .none = true := rfl
theorem isNn_i {i : Int} : isNn (.int i) = false := rfl
theorem isNn_b {i : Bool} : isNn (.bool i) = false := rfl
theorem isNn_s {i : Str} : isNn (.str i) = false := rfl
theorem isNn_t {i : List D} : isNn (.tuple i) = false := rfl
theorem isNn_l {i : List D} : isNn (.list i) = false := rfl
theorem mrg_n {m : List (D × D)} : mrg m [] = m := by rw [mrg]
theorem pairUp_n : pairUp [] = some [] := by rw [pairUp]
theorem pairUp_s {s : Str} {v : D} {r : List D} : pairUp (.str s :: v :: r) = (pairUp r).bind fun ps => some ((.str s, v) :: ps) := by
  rw [pairUp, if_pos (by rfl)]
  cases pairUp r <;> rfl
theorem ixSet_e {xs : List D} {i : Int} {v : D} : ixSet xs i v = (ixI xs.length i).bind fun j => some (xs.set j v) := by
  unfold ixSet
  cases ixI xs.length i <;> rfl
theorem onInts_l {f : List Int → Option O} {is : List Int} : onInts f (.lst (is.map PyData.int)) = f is := by
  show (match intsOf (is.map .int) with | some is => f is | none => none) = _
  have : intsOf (is.map PyData.int) = some is := by
    induction is with
    | nil => rfl
    | cons i is ih =>
      show (intsOf (is.map PyData.int)).map (i :: ·) = _
      rw [ih]
      rfl
  rw [this]
theorem boolsOf_m {bs : List Bool} : boolsOf (bs.map PyData.bool) = some bs := by
  induction bs with
  | nil => rfl
  | cons i is ih =>
    show (boolsOf (is.map PyData.bool)).map (i :: ·) = _
    rw [ih]
    rfl
theorem onBools_l {f : List Bool → Bool} {bs : List Bool} : onBools f (.lst (bs.map PyData.bool)) = some (.v (.bool (f bs))) := by
  show (boolsOf (bs.map PyData.bool)).map _ = _
  rw [boolsOf_m]
  rfl
theorem nc {k : Nat} : ((no_index (OfNat.ofNat k : Nat)) : Int) = (OfNat.ofNat k : Int) := rfl
theorem ixI_0 {n : Nat} : ixI (n + 1) 0 = some 0 := by
  unfold ixI
  rw [if_pos (by omega), if_pos (by omega)]
  rfl
theorem ixI_1 {n : Nat} : ixI (n + 2) 1 = some 1 := by
  unfold ixI
  rw [if_pos (by omega), if_pos (by omega)]
  rfl
theorem ixI_2 {n : Nat} : ixI (n + 3) 2 = some 2 := by
  unfold ixI
  rw [if_pos (by omega), if_pos (by omega)]
  rfl
theorem ixI_3 {n : Nat} : ixI (n + 4) 3 = some 3 := by
  unfold ixI
  rw [if_pos (by omega), if_pos (by omega)]
  rfl
theorem ixI_4 {n : Nat} : ixI (n + 5) 4 = some 4 := by
  unfold ixI
  rw [if_pos (by omega), if_pos (by omega)]
  rfl
theorem okE_i (i : Int) : okE (.int i) = true := rfl
theorem eqP_i (i j : Int) : eqP (.int i) (.int j) = some (decide (i = j)) := by
  have h : PyData.eqv (.int i) (.int j) = decide (i = j) := by
    show (i == j) = _
    rfl
  exact (if_pos rfl).trans (congrArg some h)
theorem eqP_s (i j : Str) : eqP (.str i) (.str j) = some (decide (i = j)) := by
  have h : PyData.eqv (.str i) (.str j) = decide (i = j) := by
    show (i == j) = _
    rfl
  exact (if_pos rfl).trans (congrArg some h)
end
/-! ### bounds -/
def Bd (k : Nat) (i : Int) : Prop := i.natAbs < 2 ^ k
theorem Bd.log {k : Nat} {i : Int} (h : Bd k i) : i.natAbs.log2 ≤ k := by
  by_cases z : i.natAbs = 0
  · rw [z]
    simp
  · exact Nat.le_of_lt ((Nat.log2_lt z).mpr h)
theorem Bd.mono {k l : Nat} {i : Int} (h : Bd k i) (e : k ≤ l) : Bd l i := Nat.lt_of_lt_of_le h (Nat.pow_le_pow_right (by decide) e)
theorem Bd.mul {a b : Nat} {i j : Int} (h : Bd a i) (k : Bd b j) : Bd (a + b) (i * j) := by
  unfold Bd at *
  rw [Int.natAbs_mul, Nat.pow_add]
  exact Nat.mul_lt_mul_of_lt_of_le h (Nat.le_of_lt k) (Nat.lt_of_le_of_lt (Nat.zero_le _) k)
theorem Bd.add {a : Nat} {i j : Int} (h : Bd a i) (k : Bd a j) : Bd (a + 1) (i + j) := by
  unfold Bd at *
  rw [Nat.pow_succ]
  omega
theorem Bd.sub {a : Nat} {i j : Int} (h : Bd a i) (k : Bd a j) : Bd (a + 1) (i - j) := by
  unfold Bd at *
  rw [Nat.pow_succ]
  omega
theorem Bd.neg {a : Nat} {i : Int} (h : Bd a i) : Bd a (-i) := by
  unfold Bd at *
  rw [Int.natAbs_neg]
  exact h
theorem Bd.le {a : Nat} {i j : Int} (h : Bd a j) (e : i.natAbs ≤ j.natAbs) : Bd a i := Nat.lt_of_le_of_lt e h
theorem mulOk_of {a b : Nat} {i j : Int} (h : Bd a i) (k : Bd b j) (e : a + b < 1000000) : mulOk i j = true := by
  have h1 := h.log
  have h2 := k.log
  exact decide_eq_true (by omega)
theorem divOk_of {a : Nat} {j : Int} (h : 0 < j) (k : Bd a j) (e : a < 9000) : divOk j = true := by
  have h1 := k.log
  unfold divOk
  rw [decide_eq_true h, decide_eq_true (by omega : j.natAbs.log2 < 9000)]
  rfl
/-- small numbers -/
theorem Bd.of {k : Nat} {i : Int} (h1 : -(2 ^ k : Nat) < i) (h2 : i < (2 ^ k : Nat)) : Bd k i := by
  unfold Bd
  omega
theorem Bd.of64 {i : Int} (h1 : -18446744073709551616 < i) (h2 : i < 18446744073709551616) : Bd 64 i := by
  refine .of ?_ ?_
  · simpa using h1
  · simpa using h2
/-! ### loops -/
theorem forLoop_inv {f : D → En → Option (Fl × En)} (P : List D → En → Prop) : ∀ (xs : List D) (r : En), P xs r → (∀ x xs r, P (x :: xs) r → ∃ r', f x r = some (.nx, r') ∧ P xs r') → ∃ r', forLoop f xs r = some (.nx, r') ∧ P [] r'
  | [], r, h, _ => ⟨r, rfl, h⟩
  | x :: xs, r, h, s => by
    obtain ⟨r1, e1, h1⟩ := s x xs r h
    obtain ⟨r2, e2, h2⟩ := forLoop_inv P xs r1 h1 s
    exact ⟨r2, by rw [forLoop, e1]; exact e2, h2⟩
theorem lcLoop_inv {f : D → En → Option (Option D × En)} (P : List D → List D → En → Prop) : ∀ (xs ys : List D) (r : En), P xs ys r → (∀ x xs ys r, P (x :: xs) ys r → ∃ y r', f x r = some (y, r') ∧ P xs (ys ++ y.toList) r') →
    ∃ zs r', lcLoop f xs r = some (zs, r') ∧ P [] (ys ++ zs) r'
  | [], ys, r, h, _ => ⟨[], r, rfl, by rw [List.append_nil]; exact h⟩
  | x :: xs, ys, r, h, s => by
    obtain ⟨y, r1, e1, h1⟩ := s x xs ys r h
    obtain ⟨zs, r2, e2, h2⟩ := lcLoop_inv P xs _ r1 h1 s
    refine ⟨y.toList ++ zs, r2, ?_, by rw [← List.append_assoc]; exact h2⟩
    rw [lcLoop, e1]
    show (lcLoop f xs r1).bind _ = _
    rw [e2]
    cases y <;> rfl
/-- a comprehension that reckons each item by itself -/
theorem lcLoop_map {f : D → En → Option (Option D × En)} (S : En → Prop) {F : D → Option D} : ∀ (xs : List D), (∀ x ∈ xs, ∀ s, S s → ∃ s', f x s = some (F x, s') ∧ S s') → ∀ s, S s → ∃ s', lcLoop f xs s = some (xs.filterMap F, s') ∧ S s'
  | [], _, s, hs => ⟨s, rfl, hs⟩
  | x :: xs, h, s, hs => by
    obtain ⟨s1, e1, h1⟩ := h x List.mem_cons_self s hs
    obtain ⟨s', e2, h2⟩ := lcLoop_map S xs (fun y hy => h y (List.mem_cons_of_mem _ hy)) s1 h1
    refine ⟨s', ?_, h2⟩
    rw [lcLoop, e1]
    show (lcLoop f xs s1).bind _ = _
    rw [e2, List.filterMap_cons]
    cases F x <;> rfl
theorem whlLoop_step {c : En → Option (Bool × En)} {b : En → Option (Fl × En)} {r r1 r2 : En} (h1 : c r = some (true, r1)) (h2 : b r1 = some (.nx, r2)) : whlLoop c b r = whlLoop c b r2 := by
  rw [whlLoop, h1]
  simp only
  rw [h2]
theorem whlLoop_end {c : En → Option (Bool × En)} {b : En → Option (Fl × En)} {r r1 : En} (h1 : c r = some (false, r1)) : whlLoop c b r = some (.nx, r1) := by
  rw [whlLoop, h1]
section
variable {g : Ga} {pn : List Nat} {r r1 r2 : En}
theorem whl_step {c : CE} {body : List CS} (h1 : ev g c r = some (.v (.bool true), r1)) (h2 : exs g pn body r1 = some (.nx, r2)) : ex g pn (.whl c body) r = ex g pn (.whl c body) r2 := by
  rw [ex, ex]
  exact whlLoop_step (r1 := r1) (by rw [h1]; rfl) h2
theorem whl_end {c : CE} {body : List CS} (h1 : ev g c r = some (.v (.bool false), r1)) : ex g pn (.whl c body) r = some (.nx, r1) := by
  rw [ex]
  exact whlLoop_end (by rw [h1]; rfl)
def forF (g : Ga) (pn : List Nat) (tg : Tg) (body : List CS) : D → En → Option (Fl × En) := fun x r => (asgT tg x r).bind (exs g pn body)
theorem for_run {tg : Tg} {it : It} {body : List CS} {xs : List D} {res : Option (Fl × En)} (h1 : evit g it r = some (xs, r1)) (h2 : tgOk pn tg = true) (h3 : forLoop (forF g pn tg body) xs r1 = res) : ex g pn (.for tg it body) r = res := by
  rw [ex, h1]
  show (if tgOk pn tg then _ else _) = _
  rw [h2]
  exact h3
def lcF (g : Ga) (own : List Nat) (elt : CE) (tg : Tg) (ifs : List CE) : D → En → Option (Option D × En) := fun x r => (asgT tg x (wipe r own)).bind fun r => (evc g ifs r).bind fun q => match q.1 with
  | false => some (none, q.2)
  | true => (ev g elt q.2).bind fun y => some (some y.1.d, y.2)
theorem lc_run {own : List Nat} {elt : CE} {tg : Tg} {it : It} {ifs : List CE} {xs ys : List D} (h1 : evit g it r = some (xs, r1)) (h2 : lcLoop (lcF g own elt tg ifs) xs (wipe r1 own) = some (ys, r2)) : ev g (.lc own elt tg it ifs) r = some (.lst ys, back r1 r2 own) := by
  rw [ev, h1]
  show (lcLoop (lcF g own elt tg ifs) xs (wipe r1 own)).bind _ = _
  rw [h2]
  rfl
end
/-- all hold -/
theorem lc_all {f : D → En → Option (Option D × En)} (S : En → Prop) {xs : List D} (h : ∀ x ∈ xs, ∀ s, S s → ∃ s', f x s = some (some (.bool true), s') ∧ S s') (s : En) (hs : S s) : ∃ s', lcLoop f xs s = some (List.replicate xs.length (.bool true), s') ∧ S s' := by
  obtain ⟨s', e, h'⟩ := lcLoop_map S (F := fun _ => some (.bool true)) xs h s hs
  refine ⟨s', ?_, h'⟩
  rw [e]
  congr 2
  clear e h
  induction xs with
  | nil => rfl
  | cons x xs ih =>
    rw [List.filterMap_cons, List.length_cons, List.replicate_succ, ← ih]
theorem all_rep (m : Nat) : onBools (fun bs => bs.all id) (.lst (List.replicate m (.bool true))) = some (.v (.bool true)) := by
  have : List.replicate m (PyData.bool true) = (List.replicate m true).map PyData.bool := by rw [List.map_replicate]
  rw [this, onBools_l]
  congr 3
  exact List.all_eq_true.mpr fun x hx => List.eq_of_mem_replicate hx
theorem lc_map {f : D → En → Option (Option D × En)} (S : En → Prop) {F : D → D} {xs : List D} (h : ∀ x ∈ xs, ∀ s, S s → ∃ s', f x s = some (some (F x), s') ∧ S s') (s : En) (hs : S s) : ∃ s', lcLoop f xs s = some (xs.map F, s') ∧ S s' := by
  obtain ⟨s', e, h'⟩ := lcLoop_map S (F := fun x => some (F x)) xs h s hs
  refine ⟨s', ?_, h'⟩
  rw [e]
  congr 2
  rw [List.filterMap_eq_map']
theorem rep_s {k : Nat} : List.replicate (k + 1) (none : Option O) = none :: List.replicate k none := rfl
theorem rep_z : List.replicate 0 (none : Option O) = [] := rfl
/-! ### data of little depth, without dicts -/
structure Pl (k : Nat) (d : D) : Prop where
  dep : d.depth ≤ k
  nd : noDict d = true
theorem Pl.int {i : Int} : Pl 0 (.int i) := ⟨Nat.le_refl _, rfl⟩
theorem Pl.str {i : Str} : Pl 0 (.str i) := ⟨Nat.le_refl _, rfl⟩
theorem Pl.bool {i : Bool} : Pl 0 (.bool i) := ⟨Nat.le_refl _, rfl⟩
theorem Pl.non : Pl 0 .none := ⟨Nat.le_refl _, rfl⟩
theorem Pl.up {k l : Nat} {d : D} (h : Pl k d) (e : k ≤ l) : Pl l d := ⟨Nat.le_trans h.dep e, h.nd⟩
theorem Pl.all {k : Nat} : ∀ {xs : List D}, (∀ x ∈ xs, Pl k x) → PyData.depthAll xs ≤ k ∧ noDictAll xs = true
  | [], _ => ⟨Nat.zero_le _, rfl⟩
  | x :: xs, h => by
    obtain ⟨h1, h2⟩ := Pl.all fun y hy => h y (List.mem_cons_of_mem _ hy)
    have h0 := h x List.mem_cons_self
    refine ⟨Nat.max_le.mpr ⟨h0.dep, h1⟩, ?_⟩
    show (noDict x && noDictAll xs) = true
    rw [h0.nd, h2]
    rfl
theorem Pl.tup {k : Nat} {xs : List D} (h : ∀ x ∈ xs, Pl k x) : Pl (k + 1) (.tuple xs) := ⟨Nat.succ_le_succ (Pl.all h).1, (Pl.all h).2⟩
theorem Pl.list {k : Nat} {xs : List D} (h : ∀ x ∈ xs, Pl k x) : Pl (k + 1) (.list xs) := ⟨Nat.succ_le_succ (Pl.all h).1, (Pl.all h).2⟩
theorem Pl.tup1 {k : Nat} {x : D} (h : Pl k x) : Pl (k + 1) (.tuple [x]) := .tup fun y hy => by
  rw [List.mem_singleton.mp hy]
  exact h
theorem Pl.nil {k : Nat} : ∀ x ∈ ([] : List D), Pl k x := fun x h => by cases h
theorem Pl.cons {k : Nat} {x : D} {xs : List D} (h : Pl k x) (hs : ∀ y ∈ xs, Pl k y) : ∀ y ∈ x :: xs, Pl k y := fun y hy => by
  rcases List.mem_cons.mp hy with rfl | hy
  · exact h
  · exact hs y hy
theorem Pl.map {α : Type} {k : Nat} {f : α → D} {xs : List α} (h : ∀ x, Pl k (f x)) : ∀ y ∈ xs.map f, Pl k y := fun y hy => by
  obtain ⟨x, _, rfl⟩ := List.mem_map.mp hy
  exact h x
theorem eqP_of {a b : D} {k l : Nat} (ha : Pl k a) (hb : Pl l b) (hk : k ≤ 64) (hl : l ≤ 64) : eqP a b = some (PyData.eqv a b) := by
  have h1 : okE a = true := decide_eq_true (Nat.le_trans ha.dep hk)
  have h2 : okE b = true := decide_eq_true (Nat.le_trans hb.dep hl)
  unfold eqP
  rw [h1, h2, ha.nd, hb.nd]
  rfl
theorem evit_rng {g : Ga} {lo hi : CE} {r r1 r2 : En} {i j : Int} (h1 : ev g lo r = some (.v (.int i), r1)) (h2 : ev g hi r1 = some (.v (.int j), r2)) (b1 : -1000000 ≤ i ∧ i ≤ 1000000) (b2 : -1000000 ≤ j ∧ j ≤ 1000000) : evit g (.rng lo hi) r = some (rngD i j, r2) := by
  have s : (j - i).toNat ≤ SZ := Nat.le_trans (by omega : (j - i).toNat ≤ 2000000) (by decide)
  rw [evit, h1]
  show ((ev g hi r1).bind _) = _
  rw [h2]
  show (if (decide (-(2 ^ 62 : Int) ≤ i) && decide (i < (2 ^ 62 : Int)) && decide (-(2 ^ 62 : Int) ≤ j) && decide (j < (2 ^ 62 : Int)) && decide ((j - i).toNat ≤ SZ)) = true then _ else none) = _
  have e1 : -(2 ^ 62 : Int) ≤ i := by have : (2 ^ 62 : Int) = 4611686018427387904 := by decide
                                      omega
  have e2 : i < (2 ^ 62 : Int) := by have : (2 ^ 62 : Int) = 4611686018427387904 := by decide
                                     omega
  have e3 : -(2 ^ 62 : Int) ≤ j := by have : (2 ^ 62 : Int) = 4611686018427387904 := by decide
                                      omega
  have e4 : j < (2 ^ 62 : Int) := by have : (2 ^ 62 : Int) = 4611686018427387904 := by decide
                                     omega
  rw [decide_eq_true e1, decide_eq_true e2, decide_eq_true e3, decide_eq_true e4, decide_eq_true s]
  rfl
/-- one of a list, by a place that is drawn -/
theorem pick {m : Nat} (xs : List D) (hm : xs.length = m) {j : Int} (h0 : 0 ≤ j) (h1 : j < m) : ∃ k x, ixI m j = some k ∧ xs[k]? = some x ∧ x ∈ xs := by
  have hk : j.toNat < xs.length := by omega
  refine ⟨j.toNat, xs[j.toNat], ?_, List.getElem?_eq_getElem hk, List.getElem_mem hk⟩
  unfold ixI
  rw [if_pos h0, if_pos h1]
end Mp
end

/-! ## S1 -/
section
set_option linter.all false
set_option maxRecDepth 100000
namespace Mp
open PySem
local macro_rules | `(tactic| one_item) => `(tactic| simp (config := { decide := false }) only [↓bnd_p, bnd_s, bnd_n, runF_e, endF_nx, endF_rt, exs_c, exs_n, seqF_nx, seqF_rt, seqF_bk, seqF_ct, ex.eq_1, ex.eq_2, ex.eq_3, ex.eq_4, ex.eq_5, ex.eq_6, ex.eq_7, ex.eq_8, ex.eq_9, ex.eq_10, ex.eq_11, ex.eq_12, ex.eq_15, ex.eq_16, ex.eq_17, ex.eq_18, ev.eq_1, ev.eq_2, ev.eq_3, ev.eq_4, ev.eq_5, ev.eq_6, ev.eq_7, ev.eq_8, ev.eq_9, ev.eq_10, ev.eq_11, ev.eq_12, ev.eq_13, ev.eq_14, ev.eq_15, ev.eq_16, ev.eq_17, ev.eq_18, ev.eq_19, ev.eq_20, ev.eq_23, ev.eq_24, ev.eq_25, ev.eq_26, ev.eq_27, evs, evas, evac, evc, evo, evod, evit.eq_1, evit.eq_3, evit.eq_4, evit.eq_5, evit.eq_6, evit.eq_7, evOs, arB_cst, arC_cst, arB_bin, arC_bin, arB_neg, arC_neg, arB_not, arC_not, arB_cmp, arC_cmp, arB_chn, arC_chn, arB_and, arC_and, arB_or, arC_or, arB_ife, arC_ife, arB_tup, arC_tup, arB_lst, arC_lst, arB_dct, arC_dct, arB_idx, arC_idx, arB_slc, arC_slc, arB_stp, arC_stp, arB_cal, arC_cal, arB_blt, arC_blt, arB_mth, arC_mth, arB_isi, arC_isi, arB_lc, arC_lc, arB_dc, arC_dc, arB_pop, arC_pop, arB_app, arC_app, arB_ext, arC_ext, arB_upd, arC_upd, arB_fst, arC_fst, arB_n, arC_n, arN_s, rdA_v, rdA_s, rdAs, hand, ownSl, putB, nodO, isLst, selK, binO, cmpO, ownIx, outs, pairUp_n, pairUp_s, mrg_n, isOwn_v, isOwn_l, isOwn_d, isOO_v, isOO_l, isOO_d, isO_n, isO_b, isNn_n, isNn_i, isNn_b, isNn_s, isNn_t, isNn_l, notB, leO_i, geO_i, ltO_i, gtO_i, eqO, intsO_i, addO_i, addO_t, addO_l, mulO_i, bolO_b, intO_i, isiD, idxO_t, idxO_l, idxO_vl, dctO_d, dctO_v, seqD_l, seqD_t, seqD_vl, lstO_l, lstO_vl, tupO_t, blO, one_e, two_e, absO_i, intB_i, intB_b, onInts_l, onBools_l, min2_i, max2_i, len_t, len_l, len_vl, len_s, setO_l, ixSet_e, List.set_cons_zero, List.set_cons_succ, asgT_n, asgT_t, asgTs_n, asgTs_c, tgOk_n, tgOk_t, tgsOk_n, tgsOk_c, setOs, wipe, back, slcO_t, slcO_vl, slcO_l, itO_l, itO_vl, itO_t, frA, d_v, d_l, d_d, at_z, at_s, set_z, set_s, ixI_0, ixI_1, ixI_2, ixI_3, ixI_4, eqP_i, eqP_s, nc, List.length_cons, List.length_nil, List.map_cons, List.map_nil, List.cons_append, List.nil_append, List.append_nil, rep_s, rep_z, all_rep, Nat.reduceAdd, Nat.reduceSub, Nat.reduceEqDiff, List.getElem?_cons_zero, List.getElem?_cons_succ, ↓Option.bind_eq_bind, Option.bind_some, Option.bind_none, Option.map_some, Option.map_none, Option.pure_def, if_true, if_false, ite_true, ite_false, reduceIte, Bool.not_true, Bool.not_false, Bool.false_eq_true, List.any_cons, List.any_nil, List.contains_cons, List.contains_nil, Bool.or_false, Bool.false_or, Bool.or_self, Bool.and_true, Bool.true_and, Bool.and_self, Bool.and_false, Bool.false_and, Bool.or_true, Bool.true_or, List.nodup_nil, List.nodup_cons, List.mem_cons, List.not_mem_nil, or_false, or_self, not_false_eq_true, and_true, and_self, Nat.reduceEqDiff, Nat.succ_ne_zero, Nat.zero_ne_one, Nat.one_ne_zero, beq_self_eq_true, Nat.reduceBEq, Int.reduceMul, Int.reduceNeg, decide_true, decide_false, Int.reduceLT, Int.reduceLE, Int.reduceEq, Int.ofNat_eq_natCast])
local macro_rules | `(tactic| one_place) => `(tactic| simp (config := { decide := false }) only [↓bnd_p, bnd_s, bnd_n, runF_e, endF_nx, endF_rt, exs_c, exs_n, seqF_nx, seqF_rt, seqF_bk, seqF_ct, ex.eq_1, ex.eq_2, ex.eq_3, ex.eq_4, ex.eq_5, ex.eq_6, ex.eq_7, ex.eq_8, ex.eq_9, ex.eq_10, ex.eq_11, ex.eq_12, ex.eq_15, ex.eq_16, ex.eq_17, ex.eq_18, ev.eq_1, ev.eq_2, ev.eq_3, ev.eq_4, ev.eq_5, ev.eq_6, ev.eq_7, ev.eq_8, ev.eq_9, ev.eq_10, ev.eq_11, ev.eq_12, ev.eq_13, ev.eq_14, ev.eq_15, ev.eq_16, ev.eq_17, ev.eq_18, ev.eq_19, ev.eq_20, ev.eq_23, ev.eq_24, ev.eq_25, ev.eq_26, ev.eq_27, evs, evas, evac, evc, evo, evod, evit.eq_1, evit.eq_3, evit.eq_4, evit.eq_5, evit.eq_6, evit.eq_7, evOs, arB_cst, arC_cst, arB_bin, arC_bin, arB_neg, arC_neg, arB_not, arC_not, arB_cmp, arC_cmp, arB_chn, arC_chn, arB_and, arC_and, arB_or, arC_or, arB_ife, arC_ife, arB_tup, arC_tup, arB_lst, arC_lst, arB_dct, arC_dct, arB_idx, arC_idx, arB_slc, arC_slc, arB_stp, arC_stp, arB_cal, arC_cal, arB_blt, arC_blt, arB_mth, arC_mth, arB_isi, arC_isi, arB_lc, arC_lc, arB_dc, arC_dc, arB_pop, arC_pop, arB_app, arC_app, arB_ext, arC_ext, arB_upd, arC_upd, arB_fst, arC_fst, arB_n, arC_n, arN_s, rdA_v, rdA_s, rdAs, hand, ownSl, putB, nodO, isLst, selK, binO, cmpO, ownIx, outs, pairUp_n, pairUp_s, mrg_n, isOwn_v, isOwn_l, isOwn_d, isOO_v, isOO_l, isOO_d, isO_n, isO_b, isNn_n, isNn_i, isNn_b, isNn_s, isNn_t, isNn_l, notB, leO_i, geO_i, ltO_i, gtO_i, eqO, intsO_i, addO_i, addO_t, addO_l, mulO_i, bolO_b, intO_i, isiD, idxO_t, idxO_l, idxO_vl, dctO_d, dctO_v, seqD_l, seqD_t, seqD_vl, lstO_l, lstO_vl, tupO_t, blO, one_e, two_e, absO_i, intB_i, intB_b, onInts_l, onBools_l, min2_i, max2_i, len_t, len_l, len_vl, len_s, setO_l, ixSet_e, List.set_cons_zero, List.set_cons_succ, asgT_n, asgT_t, asgTs_n, asgTs_c, tgOk_n, tgOk_t, tgsOk_n, tgsOk_c, setOs, wipe, back, slcO_t, slcO_vl, slcO_l, itO_l, itO_vl, itO_t, frA, d_v, d_l, d_d, at_z, at_s, set_z, set_s, ixI_0, ixI_1, ixI_2, ixI_3, ixI_4, eqP_i, eqP_s, nc, List.length_cons, List.length_nil, List.map_cons, List.map_nil, List.cons_append, List.nil_append, List.append_nil, rep_s, rep_z, all_rep, Nat.reduceAdd, Nat.reduceSub, Nat.reduceEqDiff, List.getElem?_cons_zero, List.getElem?_cons_succ, ↓Option.bind_eq_bind, Option.bind_some, Option.bind_none, Option.map_some, Option.map_none, Option.pure_def, if_true, if_false, ite_true, ite_false, reduceIte, Bool.not_true, Bool.not_false, Bool.false_eq_true, List.any_cons, List.any_nil, List.contains_cons, List.contains_nil, Bool.or_false, Bool.false_or, Bool.or_self, Bool.and_true, Bool.true_and, Bool.and_self, Bool.and_false, Bool.false_and, Bool.or_true, Bool.true_or, List.nodup_nil, List.nodup_cons, List.mem_cons, List.not_mem_nil, or_false, or_self, not_false_eq_true, and_true, and_self, Nat.reduceEqDiff, Nat.succ_ne_zero, Nat.zero_ne_one, Nat.one_ne_zero, beq_self_eq_true, Nat.reduceBEq, Int.reduceMul, Int.reduceNeg, decide_true, decide_false, Int.reduceLT, Int.reduceLE, Int.reduceEq, Int.ofNat_eq_natCast, *])
abbrev FN (lw : List Fd) : List Fd := mkFns Lib.fns lw
section
variable {lw : List Fd} (n : Nat)
theorem is_whole_i (i : Int) : callD (FN lw) (n + 1) 0 [.v (.int i)] = some (.v (.bool true), [.v (.int i)]) := by
  rw [callS (fd := Lib.b_is_whole) rfl]
  unfold Lib.b_is_whole
  one_item
theorem is_from_i (i j : Int) : callD (FN lw) (n + 2) 1 [.v (.int i), .v (.int j)] = some (.v (.bool (decide (j ≤ i))), [.v (.int i), .v (.int j)]) := by
  rw [callS (fd := Lib.b_is_from) rfl]
  unfold Lib.b_is_from
  one_item
  rw [is_whole_i]
  one_item
theorem is_among_i (i j k : Int) (h : j ≤ i ∧ i ≤ k) : callD (FN lw) (n + 2) 2 [.v (.int i), .v (.int j), .v (.int k)] = some (.v (.bool true), [.v (.int i), .v (.int j), .v (.int k)]) := by
  rw [callS (fd := Lib.b_is_among) rfl]
  unfold Lib.b_is_among
  one_item
  rw [is_whole_i]
  one_item
  rw [decide_eq_true h.1]
  one_item
  rw [decide_eq_true h.2]
theorem is_row_t (ds : List D) (k : Int) : callD (FN lw) (n + 1) 7 [.v (.tuple ds), .v (.int k)] = some (.v (.bool (decide ((ds.length : Int) = k))), [.v (.tuple ds), .v (.int k)]) := by
  rw [callS (fd := Lib.b_is_row) rfl]
  unfold Lib.b_is_row
  one_item
theorem need_day_i (i : Int) (h : 0 ≤ i ∧ i ≤ 9999) : callD (FN lw) (n + 3) 12 [.v (.int i)] = some (.v .none, [.v (.int i)]) := by
  rw [callS (fd := Lib.b_need_day) rfl]
  unfold Lib.b_need_day
  one_item
  rw [is_among_i (h := h)]
  one_item
/-! ### fractions -/
theorem common_loop (g : Ga) : ∀ (b a : Nat), ex g [] (.whl (.cmp .ne (.nm 1) (.cst (.int 0))) [(.par [0, 1] [(.nm 1), (.bin .mod (.nm 0) (.nm 1))])]) [some (.v (.int a)), some (.v (.int b))] = some (.nx, [some (.v (.int (Nat.gcd a b : Nat))), some (.v (.int 0))])
  | 0, a => by
    rw [Nat.gcd_zero_right]
    exact whl_end (by one_item)
  | b + 1, a => by
    have e1 : decide (((b + 1 : Nat) : Int) = 0) = false := decide_eq_false (by omega)
    have e2 : decide (0 < ((b + 1 : Nat) : Int)) = true := decide_eq_true (by omega)
    refine (whl_step (r1 := [some (.v (.int a)), some (.v (.int (b + 1 : Nat)))]) (r2 := [some (.v (.int (b + 1 : Nat))), some (.v (.int (a % (b + 1) : Nat)))]) ?_ ?_).trans ?_
    · one_item
      rw [e1]
      rfl
    · one_item
      rw [e2]
      one_item
      rfl
    · have lt : a % (b + 1) < b + 1 := Nat.mod_lt _ (Nat.succ_pos b)
      rw [common_loop g (a % (b + 1)) (b + 1), Nat.gcd_comm (b + 1) (a % (b + 1)), ← Nat.gcd_rec, Nat.gcd_comm]
termination_by b _ => b
/-- the greatest common divisor -/
def gI (t b : Int) : Int := (Nat.gcd t.natAbs b.natAbs : Nat)
theorem absI (i : Int) : (if i < 0 then -i else i) = (i.natAbs : Int) := by
  split <;> omega
theorem common_i (t b : Int) : callD (FN lw) (n + 1) 8 [.v (.int t), .v (.int b)] = some (.v (.int (gI t b)), [.v (.int t), .v (.int b)]) := by
  rw [callS (fd := Lib.b_common) rfl]
  unfold Lib.b_common
  one_item
  rw [absI, absI, common_loop]
  one_item
  rfl
theorem gI_pos {t b : Int} (h : 0 < b) : 0 < gI t b := by
  unfold gI
  have := Nat.gcd_pos_of_pos_right t.natAbs (show 0 < b.natAbs by omega)
  omega
theorem gI_le {t b : Int} (h : 0 < b) : gI t b ≤ b := by
  unfold gI
  have := Nat.gcd_le_right t.natAbs (show 0 < b.natAbs by omega)
  omega
theorem gI_l (t b : Int) : gI t b ∣ t := by
  unfold gI
  exact Int.ofNat_dvd_left.mpr (Nat.gcd_dvd_left _ _)
theorem gI_r (t b : Int) : gI t b ∣ b := by
  unfold gI
  exact Int.ofNat_dvd_left.mpr (Nat.gcd_dvd_right _ _)
/-- a fraction in least terms -/
def red (t b : Int) : Int × Int := (t / gI t b, b / gI t b)
def fr (p : Int × Int) : D := .tuple [.int p.1, .int p.2]
theorem natAbs_ediv_le {t g : Int} (hg : 0 < g) (h : g ∣ t) : (t / g).natAbs ≤ t.natAbs := by
  obtain ⟨k, rfl⟩ := h
  rw [Int.mul_ediv_cancel_left _ (by omega), Int.natAbs_mul]
  have : 1 ≤ g.natAbs := by omega
  exact Nat.le_mul_of_pos_left _ (by omega)
theorem red_bd {t b : Int} {k l : Nat} (hb : 0 < b) (ht : Bd k t) (hl : Bd l b) : Bd k (red t b).1 ∧ Bd l (red t b).2 := ⟨ht.le (natAbs_ediv_le (gI_pos hb) (gI_l t b)), hl.le (natAbs_ediv_le (gI_pos hb) (gI_r t b))⟩
theorem red_pos {t b : Int} (hb : 0 < b) : 0 < (red t b).2 := by
  obtain ⟨k, e⟩ := gI_r t b
  have h := gI_pos (t := t) hb
  show 0 < b / gI t b
  rw [e] at hb
  have e2 : b / gI t b = k := by
    rw [show b / gI t b = (gI t b * k) / gI t b from by rw [← e]]
    exact Int.mul_ediv_cancel_left _ (by omega)
  rw [e2]
  exact Int.pos_of_mul_pos_right hb h
theorem red_eq {t b : Int} : t = (red t b).1 * gI t b ∧ b = (red t b).2 * gI t b := ⟨(Int.ediv_mul_cancel (gI_l t b)).symm, (Int.ediv_mul_cancel (gI_r t b)).symm⟩
theorem reduced_i (t b : Int) (hb : 0 < b) (bd : Bd 8000 b) : callD (FN lw) (n + 2) 9 [.v (.int t), .v (.int b)] = some (.v (fr (red t b)), [.v (.int t), .v (.int b)]) := by
  have e : divOk (gI t b) = true := divOk_of (gI_pos hb) (bd.le (by have := gI_le (t := t) hb; have := gI_pos (t := t) hb; omega)) (by decide)
  rw [callS (fd := Lib.b_reduced) rfl]
  unfold Lib.b_reduced
  one_item
  rw [common_i]
  one_place
  rfl
theorem times_f {p q : Int × Int} {a b : Nat} (hp : 0 < p.2) (hq : 0 < q.2) (p1 : Bd a p.1) (p2 : Bd a p.2) (q1 : Bd b q.1) (q2 : Bd b q.2) (hab : a + b ≤ 8000) :
    callD (FN lw) (n + 3) 11 [.v (fr p), .v (fr q)] = some (.v (fr (red (p.1 * q.1) (p.2 * q.2))), [.v (fr p), .v (fr q)]) := by
  rw [callS (fd := Lib.b_times) rfl]
  unfold Lib.b_times fr
  have e1 := mulOk_of p1 q1 (by omega)
  have e2 := mulOk_of p2 q2 (by omega)
  one_place
  rw [reduced_i n _ _ (Int.mul_pos hp hq) ((p2.mul q2).mono hab)]
  one_item
  rfl
theorem minus_f {p q : Int × Int} {a b : Nat} (hp : 0 < p.2) (hq : 0 < q.2) (p1 : Bd a p.1) (p2 : Bd a p.2) (q1 : Bd b q.1) (q2 : Bd b q.2) (hab : a + b ≤ 8000) :
    callD (FN lw) (n + 3) 10 [.v (fr p), .v (fr q)] = some (.v (fr (red (p.1 * q.2 - q.1 * p.2) (p.2 * q.2))), [.v (fr p), .v (fr q)]) := by
  rw [callS (fd := Lib.b_minus) rfl]
  unfold Lib.b_minus fr
  have e1 := mulOk_of p1 q2 (by omega)
  have e2 := mulOk_of q1 p2 (by omega)
  have e3 := mulOk_of p2 q2 (by omega)
  one_place
  rw [reduced_i n _ _ (Int.mul_pos hp hq) ((p2.mul q2).mono hab)]
  one_item
  rfl
/-! ### roundings -/
def nearI (c : Str) (t b : Int) : Int := if 2 * (t - t / b * b) = b then (if c = "even" then t / b + t / b % 2 else if t < 0 then t / b else t / b + 1) else t / b + (if b < 2 * (t - t / b * b) then 1 else 0)
def wholeI (c : Str) (t b : Int) : Int := if c = "down" then t / b else if c = "up" then 0 - (0 - t) / b else if c = "in" then (if 0 ≤ t then t / b else 0 - (0 - t) / b) else if c = "out" then (if 0 ≤ t then 0 - (0 - t) / b else t / b) else nearI c t b
theorem ediv_bd {t b : Int} (hb : 0 < b) : (t / b).natAbs ≤ t.natAbs := by
  rcases Int.lt_or_le t 0 with h | h
  · have h1 : t ≤ t / b := by
      have := Int.mul_ediv_add_emod t b
      have h2 := Int.emod_nonneg t (by omega : b ≠ 0)
      have h3 : t / b < 0 := Int.ediv_neg_of_neg_of_pos h hb
      have h4 : b * (t / b) ≤ 1 * (t / b) := Int.mul_le_mul_of_nonpos_right (by omega) (by omega)
      have h5 := Int.emod_lt_of_pos t hb
      by_cases hc : t ≤ t / b
      · exact hc
      · exfalso
        have h6 : t / b ≤ t - 1 := by omega
        have h7 : b * (t / b) ≤ b * (t - 1) := Int.mul_le_mul_of_nonneg_left h6 (by omega)
        have h8 : b * (t - 1) = b * t - b := by rw [Int.mul_sub, Int.mul_one]
        have h9 : b * t ≤ 1 * t := Int.mul_le_mul_of_nonpos_right (by omega) (by omega)
        omega
    have h3 : t / b < 0 := Int.ediv_neg_of_neg_of_pos h hb
    omega
  · have h1 := Int.ediv_nonneg h (by omega : 0 ≤ b)
    have h2 := Int.ediv_le_self b h
    omega
theorem nearest_i (c : Str) (t b : Int) (hb : 0 < b) {k l : Nat} (ht : Bd k t) (bl : Bd l b) (h1 : l ≤ 8000) (h2 : k ≤ 8000) : callD (FN lw) (n + 1) 14 [.v (.int t), .v (.int b), .v (.str c)] = some (.v (.int (nearI c t b)), [.v (.int t), .v (.int b), .v (.str c)]) := by
  have e0 : divOk b = true := divOk_of hb bl (by omega)
  have bq : Bd k (t / b) := ht.le (ediv_bd hb)
  have e1 : mulOk (t / b) b = true := mulOk_of bq bl (by omega)
  have b3 : Bd (k + l) (t / b * b) := bq.mul bl
  have e2 : mulOk 2 (t - t / b * b) = true := mulOk_of (Bd.of64 (by decide) (by decide)) ((ht.mono (Nat.le_add_right k l)).sub b3) (by omega)
  have e3 : decide ((0 : Int) < 2) = true := rfl
  rw [callS (fd := Lib.b_nearest) rfl]
  unfold Lib.b_nearest nearI
  one_place
  by_cases h3 : 2 * (t - t / b * b) = b
  · rw [decide_eq_true h3, if_pos h3]
    one_item
    by_cases h4 : c = "even"
    · rw [decide_eq_true h4, if_pos h4]
      one_item
    · rw [decide_eq_false h4, if_neg h4]
      one_item
      by_cases h5 : t < 0
      · rw [decide_eq_true h5, if_pos h5]
        one_item
      · rw [decide_eq_false h5, if_neg h5]
        one_item
  · rw [decide_eq_false h3, if_neg h3]
    one_item
    by_cases h4 : b < 2 * (t - t / b * b)
    · rw [decide_eq_true h4, if_pos h4]
      one_item
    · rw [decide_eq_false h4, if_neg h4]
      one_item
theorem whole_by_i (c : Str) (t b : Int) (hb : 0 < b) {k l : Nat} (ht : Bd k t) (bl : Bd l b) (h1 : l ≤ 8000) (h2 : k ≤ 8000) : callD (FN lw) (n + 2) 15 [.v (.int t), .v (.int b), .v (.str c)] = some (.v (.int (wholeI c t b)), [.v (.int t), .v (.int b), .v (.str c)]) := by
  have e0 : divOk b = true := divOk_of hb bl (by omega)
  rw [callS (fd := Lib.b_whole_by) rfl]
  unfold Lib.b_whole_by wholeI
  one_place
  by_cases h3 : c = "down"
  · rw [decide_eq_true h3, if_pos h3]
    one_item
  · rw [decide_eq_false h3, if_neg h3]
    one_item
    by_cases h4 : c = "up"
    · rw [decide_eq_true h4, if_pos h4]
      one_item
    · rw [decide_eq_false h4, if_neg h4]
      one_item
      by_cases h5 : c = "in"
      · rw [decide_eq_true h5, if_pos h5]
        one_item
        by_cases h6 : 0 ≤ t
        · rw [decide_eq_true h6, if_pos h6]
          one_item
        · rw [decide_eq_false h6, if_neg h6]
          one_item
      · rw [decide_eq_false h5, if_neg h5]
        one_item
        by_cases h7 : c = "out"
        · rw [decide_eq_true h7, if_pos h7]
          one_item
          by_cases h6 : 0 ≤ t
          · rw [decide_eq_true h6, if_pos h6]
            one_item
          · rw [decide_eq_false h6, if_neg h6]
            one_item
        · rw [decide_eq_false h7, if_neg h7]
          one_item
          rw [nearest_i n c t b hb ht bl h1 h2]
          one_item
end
end Mp
end

/-! ## S2 -/
section
set_option linter.all false
set_option maxRecDepth 100000
namespace Mp
open PySem
local macro_rules | `(tactic| one_item) => `(tactic| simp (config := { decide := false }) only [↓bnd_p, bnd_s, bnd_n, runF_e, endF_nx, endF_rt, exs_c, exs_n, seqF_nx, seqF_rt, seqF_bk, seqF_ct, ex.eq_1, ex.eq_2, ex.eq_3, ex.eq_4, ex.eq_5, ex.eq_6, ex.eq_7, ex.eq_8, ex.eq_9, ex.eq_10, ex.eq_11, ex.eq_12, ex.eq_15, ex.eq_16, ex.eq_17, ex.eq_18, ev.eq_1, ev.eq_2, ev.eq_3, ev.eq_4, ev.eq_5, ev.eq_6, ev.eq_7, ev.eq_8, ev.eq_9, ev.eq_10, ev.eq_11, ev.eq_12, ev.eq_13, ev.eq_14, ev.eq_15, ev.eq_16, ev.eq_17, ev.eq_18, ev.eq_19, ev.eq_20, ev.eq_23, ev.eq_24, ev.eq_25, ev.eq_26, ev.eq_27, evs, evas, evac, evc, evo, evod, evit.eq_1, evit.eq_3, evit.eq_4, evit.eq_5, evit.eq_6, evit.eq_7, evOs, arB_cst, arC_cst, arB_bin, arC_bin, arB_neg, arC_neg, arB_not, arC_not, arB_cmp, arC_cmp, arB_chn, arC_chn, arB_and, arC_and, arB_or, arC_or, arB_ife, arC_ife, arB_tup, arC_tup, arB_lst, arC_lst, arB_dct, arC_dct, arB_idx, arC_idx, arB_slc, arC_slc, arB_stp, arC_stp, arB_cal, arC_cal, arB_blt, arC_blt, arB_mth, arC_mth, arB_isi, arC_isi, arB_lc, arC_lc, arB_dc, arC_dc, arB_pop, arC_pop, arB_app, arC_app, arB_ext, arC_ext, arB_upd, arC_upd, arB_fst, arC_fst, arB_n, arC_n, arN_s, rdA_v, rdA_s, rdAs, hand, ownSl, putB, nodO, isLst, selK, binO, cmpO, ownIx, outs, pairUp_n, pairUp_s, mrg_n, isOwn_v, isOwn_l, isOwn_d, isOO_v, isOO_l, isOO_d, isO_n, isO_b, isNn_n, isNn_i, isNn_b, isNn_s, isNn_t, isNn_l, notB, leO_i, geO_i, ltO_i, gtO_i, eqO, intsO_i, addO_i, addO_t, addO_l, mulO_i, bolO_b, intO_i, isiD, idxO_t, idxO_l, idxO_vl, dctO_d, dctO_v, seqD_l, seqD_t, seqD_vl, lstO_l, lstO_vl, tupO_t, blO, one_e, two_e, absO_i, intB_i, intB_b, onInts_l, onBools_l, min2_i, max2_i, len_t, len_l, len_vl, len_s, setO_l, ixSet_e, List.set_cons_zero, List.set_cons_succ, asgT_n, asgT_t, asgTs_n, asgTs_c, tgOk_n, tgOk_t, tgsOk_n, tgsOk_c, setOs, wipe, back, slcO_t, slcO_vl, slcO_l, itO_l, itO_vl, itO_t, frA, d_v, d_l, d_d, at_z, at_s, set_z, set_s, ixI_0, ixI_1, ixI_2, ixI_3, ixI_4, eqP_i, eqP_s, nc, List.length_cons, List.length_nil, List.map_cons, List.map_nil, List.cons_append, List.nil_append, List.append_nil, rep_s, rep_z, all_rep, Nat.reduceAdd, Nat.reduceSub, Nat.reduceEqDiff, List.getElem?_cons_zero, List.getElem?_cons_succ, ↓Option.bind_eq_bind, Option.bind_some, Option.bind_none, Option.map_some, Option.map_none, Option.pure_def, if_true, if_false, ite_true, ite_false, reduceIte, Bool.not_true, Bool.not_false, Bool.false_eq_true, List.any_cons, List.any_nil, List.contains_cons, List.contains_nil, Bool.or_false, Bool.false_or, Bool.or_self, Bool.and_true, Bool.true_and, Bool.and_self, Bool.and_false, Bool.false_and, Bool.or_true, Bool.true_or, List.nodup_nil, List.nodup_cons, List.mem_cons, List.not_mem_nil, or_false, or_self, not_false_eq_true, and_true, and_self, Nat.reduceEqDiff, Nat.succ_ne_zero, Nat.zero_ne_one, Nat.one_ne_zero, beq_self_eq_true, Nat.reduceBEq, Int.reduceMul, Int.reduceNeg, decide_true, decide_false, Int.reduceLT, Int.reduceLE, Int.reduceEq, Int.ofNat_eq_natCast])
local macro_rules | `(tactic| one_place) => `(tactic| simp (config := { decide := false }) only [↓bnd_p, bnd_s, bnd_n, runF_e, endF_nx, endF_rt, exs_c, exs_n, seqF_nx, seqF_rt, seqF_bk, seqF_ct, ex.eq_1, ex.eq_2, ex.eq_3, ex.eq_4, ex.eq_5, ex.eq_6, ex.eq_7, ex.eq_8, ex.eq_9, ex.eq_10, ex.eq_11, ex.eq_12, ex.eq_15, ex.eq_16, ex.eq_17, ex.eq_18, ev.eq_1, ev.eq_2, ev.eq_3, ev.eq_4, ev.eq_5, ev.eq_6, ev.eq_7, ev.eq_8, ev.eq_9, ev.eq_10, ev.eq_11, ev.eq_12, ev.eq_13, ev.eq_14, ev.eq_15, ev.eq_16, ev.eq_17, ev.eq_18, ev.eq_19, ev.eq_20, ev.eq_23, ev.eq_24, ev.eq_25, ev.eq_26, ev.eq_27, evs, evas, evac, evc, evo, evod, evit.eq_1, evit.eq_3, evit.eq_4, evit.eq_5, evit.eq_6, evit.eq_7, evOs, arB_cst, arC_cst, arB_bin, arC_bin, arB_neg, arC_neg, arB_not, arC_not, arB_cmp, arC_cmp, arB_chn, arC_chn, arB_and, arC_and, arB_or, arC_or, arB_ife, arC_ife, arB_tup, arC_tup, arB_lst, arC_lst, arB_dct, arC_dct, arB_idx, arC_idx, arB_slc, arC_slc, arB_stp, arC_stp, arB_cal, arC_cal, arB_blt, arC_blt, arB_mth, arC_mth, arB_isi, arC_isi, arB_lc, arC_lc, arB_dc, arC_dc, arB_pop, arC_pop, arB_app, arC_app, arB_ext, arC_ext, arB_upd, arC_upd, arB_fst, arC_fst, arB_n, arC_n, arN_s, rdA_v, rdA_s, rdAs, hand, ownSl, putB, nodO, isLst, selK, binO, cmpO, ownIx, outs, pairUp_n, pairUp_s, mrg_n, isOwn_v, isOwn_l, isOwn_d, isOO_v, isOO_l, isOO_d, isO_n, isO_b, isNn_n, isNn_i, isNn_b, isNn_s, isNn_t, isNn_l, notB, leO_i, geO_i, ltO_i, gtO_i, eqO, intsO_i, addO_i, addO_t, addO_l, mulO_i, bolO_b, intO_i, isiD, idxO_t, idxO_l, idxO_vl, dctO_d, dctO_v, seqD_l, seqD_t, seqD_vl, lstO_l, lstO_vl, tupO_t, blO, one_e, two_e, absO_i, intB_i, intB_b, onInts_l, onBools_l, min2_i, max2_i, len_t, len_l, len_vl, len_s, setO_l, ixSet_e, List.set_cons_zero, List.set_cons_succ, asgT_n, asgT_t, asgTs_n, asgTs_c, tgOk_n, tgOk_t, tgsOk_n, tgsOk_c, setOs, wipe, back, slcO_t, slcO_vl, slcO_l, itO_l, itO_vl, itO_t, frA, d_v, d_l, d_d, at_z, at_s, set_z, set_s, ixI_0, ixI_1, ixI_2, ixI_3, ixI_4, eqP_i, eqP_s, nc, List.length_cons, List.length_nil, List.map_cons, List.map_nil, List.cons_append, List.nil_append, List.append_nil, rep_s, rep_z, all_rep, Nat.reduceAdd, Nat.reduceSub, Nat.reduceEqDiff, List.getElem?_cons_zero, List.getElem?_cons_succ, ↓Option.bind_eq_bind, Option.bind_some, Option.bind_none, Option.map_some, Option.map_none, Option.pure_def, if_true, if_false, ite_true, ite_false, reduceIte, Bool.not_true, Bool.not_false, Bool.false_eq_true, List.any_cons, List.any_nil, List.contains_cons, List.contains_nil, Bool.or_false, Bool.false_or, Bool.or_self, Bool.and_true, Bool.true_and, Bool.and_self, Bool.and_false, Bool.false_and, Bool.or_true, Bool.true_or, List.nodup_nil, List.nodup_cons, List.mem_cons, List.not_mem_nil, or_false, or_self, not_false_eq_true, and_true, and_self, Nat.reduceEqDiff, Nat.succ_ne_zero, Nat.zero_ne_one, Nat.one_ne_zero, beq_self_eq_true, Nat.reduceBEq, Int.reduceMul, Int.reduceNeg, decide_true, decide_false, Int.reduceLT, Int.reduceLE, Int.reduceEq, Int.ofNat_eq_natCast, *])
/-! ### round_by -/
theorem ceil_eq {t b : Int} (hb : 0 < b) (h : t - t / b * b ≠ 0) : 0 - (0 - t) / b = t / b + 1 := by
  have h1 := Int.emod_nonneg t (by omega : b ≠ 0)
  have h2 := Int.emod_lt_of_pos t hb
  have h3 := Int.mul_ediv_add_emod t b
  have h4 : t / b * b = b * (t / b) := Int.mul_comm _ _
  have : (0 - t) / b = - (t / b) - 1 := by
    have q : (b - t % b) + b * (- (t / b) - 1) = 0 - t := by
      rw [Int.mul_sub, Int.mul_neg, Int.mul_one]
      omega
    exact ((Int.ediv_emod_unique hb).mpr ⟨q, by omega, by omega⟩).1
  omega
theorem ceil_eq0 {t b : Int} (hb : 0 < b) (h : t - t / b * b = 0) : 0 - (0 - t) / b = t / b := by
  have h4 : t / b * b = b * (t / b) := Int.mul_comm _ _
  have : (0 - t) / b = - (t / b) := by
    have q : (0 : Int) + b * (- (t / b)) = 0 - t := by
      rw [Int.mul_neg]
      omega
    exact ((Int.ediv_emod_unique hb).mpr ⟨q, by omega, by omega⟩).1
  omega
theorem near_two {c : Str} {t b : Int} (hb : 0 < b) : nearI c t b = t / b ∨ nearI c t b = 0 - (0 - t) / b := by
  have h1 := Int.emod_nonneg t (by omega : b ≠ 0)
  have h2 := Int.emod_lt_of_pos t hb
  have h3 := Int.mul_ediv_add_emod t b
  have h4 : t / b * b = b * (t / b) := Int.mul_comm _ _
  by_cases z : t - t / b * b = 0
  · left
    unfold nearI
    rw [if_neg (by omega), if_neg (by omega)]
    omega
  · rw [ceil_eq hb z]
    unfold nearI
    split
    · split
      · omega
      · split <;> omega
    · split <;> omega
theorem whole_two {c : Str} {t b : Int} (hb : 0 < b) : wholeI c t b = t / b ∨ wholeI c t b = 0 - (0 - t) / b := by
  unfold wholeI
  split
  · exact .inl rfl
  · split
    · exact .inr rfl
    · split
      · split
        · exact .inl rfl
        · exact .inr rfl
      · split
        · split
          · exact .inr rfl
          · exact .inl rfl
        · exact near_two hb
theorem whole_bd {c : Str} {t b : Int} (hb : 0 < b) {k : Nat} (h : Bd k t) : Bd k (wholeI c t b) := by
  rcases whole_two (c := c) (t := t) hb with e | e
  · rw [e]
    exact h.le (ediv_bd hb)
  · rw [e]
    refine h.le ?_
    have := ediv_bd (t := 0 - t) hb
    omega
section
variable {lw : List Fd} (n : Nat)
/-- what is told, and the rest -/
def toldI (c : Str) (t b s : Int) : Int := wholeI c t (b * s) * s
def restI (c : Str) (t b s : Int) : Int × Int := red ((red t b).1 * 1 - toldI c t b s * (red t b).2) ((red t b).2 * 1)
theorem round_by_i (c : Str) (t b s : Int) (hb : 0 < b) (hs : 0 < s) {k l : Nat} (ht : Bd k t) (bl : Bd l b) (bs : Bd 7 s) (h1 : l ≤ 3000) (h2 : k ≤ 3000) :
    callD (FN lw) (n + 4) 16 [.v (.int t), .v (.int b), .v (.str c), .v (.int s)] = some (.v (.tuple [.int (toldI c t b s), fr (restI c t b s)]), [.v (.int t), .v (.int b), .v (.str c), .v (.int s)]) := by
  have hbs := Int.mul_pos hb hs
  have w : Bd k (wholeI c t (b * s)) := whole_bd hbs ht
  have e1 : mulOk b s = true := mulOk_of bl bs (by omega)
  have e2 : mulOk (wholeI c t (b * s)) s = true := mulOk_of w bs (by omega)
  have c1 := whole_by_i (lw := lw) (n + 1) c t (b * s) hbs ht (bl.mul bs) (by omega) (by omega)
  have c2 := reduced_i (lw := lw) (n + 1) t b hb (bl.mono (by omega))
  obtain ⟨r1, r2⟩ := red_bd (t := t) hb ht bl
  have one : Bd 1 (1 : Int) := by unfold Bd; decide
  have c3 := minus_f (lw := lw) n (p := red t b) (q := (toldI c t b s, 1)) (a := max k l) (b := k + 7) (red_pos hb) Int.one_pos (r1.mono (by omega)) (r2.mono (by omega)) (w.mul bs) (one.mono (by omega)) (by omega)
  rw [callS (fd := Lib.b_round_by) rfl]
  unfold Lib.b_round_by
  one_item
  rw [e1]
  one_item
  rw [c1]
  one_item
  rw [e2]
  one_item
  rw [c2]
  one_item
  unfold toldI fr at c3
  unfold fr
  rw [c3]
  one_item
  rfl
end
/-! ### texts -/
def lettersB (s : Str) : Bool := s.cps.toList.all fun c => occ ⟨#[c]⟩ "abcdefghijklmnopqrstuvwxyz"
section
variable {lw : List Fd} (n : Nat)
theorem are_letters_s (s : Str) (lo hi : Int) (h : lettersB s = true) (h1 : lo ≤ s.length) (h2 : (s.length : Int) ≤ hi) : callD (FN lw) (n + 1) 4 [.v (.str s), .v (.int lo), .v (.int hi)] = some (.v (.bool true), [.v (.str s), .v (.int lo), .v (.int hi)]) := by
  have e1 := decide_eq_true h1
  have e2 := decide_eq_true h2
  rw [callS (fd := Lib.b_are_letters) rfl]
  unfold Lib.b_are_letters
  one_place
  obtain ⟨s', e, u, rfl⟩ := lc_all (f := lcF (callD (FN lw) n) [3] (.cmp .isin (.nm 3) (.cst (.str "abcdefghijklmnopqrstuvwxyz"))) (.nm 3) []) (fun s' => ∃ u, s' = [some (.v (.str s)), some (.v (.int lo)), some (.v (.int hi)), u]) (xs := strL s) (fun x hx s' ⟨u, e⟩ => by
    subst e
    unfold strL at hx
    obtain ⟨c, hc, rfl⟩ := List.mem_map.mp hx
    have := List.all_eq_true.mp h c hc
    refine ⟨[some (.v (.str s)), some (.v (.int lo)), some (.v (.int hi)), some (.v (.str ⟨#[c]⟩))], ?_, ⟨_, rfl⟩⟩
    unfold lcF
    one_item
    rw [show inO (.v (.str ⟨#[c]⟩)) (.v (.str "abcdefghijklmnopqrstuvwxyz")) = some true from congrArg some this]
    rfl) [some (.v (.str s)), some (.v (.int lo)), some (.v (.int hi)), none] ⟨_, rfl⟩
  rw [lc_run (xs := strL s) (r1 := [some (.v (.str s)), some (.v (.int lo)), some (.v (.int hi)), none]) (by one_item; rfl) e]
  one_item
theorem is_code_s (s : Str) (h : lettersB s = true) (h1 : s.length = 3) : callD (FN lw) (n + 2) 6 [.v (.str s)] = some (.v (.bool true), [.v (.str s)]) := by
  rw [callS (fd := Lib.b_is_code) rfl]
  unfold Lib.b_is_code
  one_item
  rw [are_letters_s n s 3 3 h (by omega) (by omega)]
  one_item
theorem is_word_s (s : Str) (h : lettersB s = true) (h1 : 1 ≤ s.length ∧ s.length ≤ 8) : callD (FN lw) (n + 2) 5 [.v (.str s)] = some (.v (.bool true), [.v (.str s)]) := by
  rw [callS (fd := Lib.b_is_word) rfl]
  unfold Lib.b_is_word
  one_item
  rw [are_letters_s n s 1 8 h (by omega) (by omega)]
  one_item
/-! ### rising -/
def Ris : List D → Prop
  | x :: y :: r => ltO x y = some true ∧ Ris (y :: r)
  | _ => True
theorem cut_init {ds : List D} : cutL ds none (some (-1)) = ds.take (ds.length - 1) := by
  unfold cutL sIx
  simp only [List.drop_zero, Nat.sub_zero]
  rw [if_pos (by decide)]
  congr 1
  omega
theorem cut_tail {ds : List D} : cutL ds (some 1) none = ds.drop 1 := by
  unfold cutL sIx
  simp only
  rw [if_neg (by decide)]
  show List.take (ds.length - min 1 ds.length) (List.drop (min 1 ds.length) ds) = _
  by_cases h : 1 ≤ ds.length
  · rw [Nat.min_eq_left h]
    exact List.take_of_length_le (by rw [List.length_drop]; omega)
  · have : ds = [] := List.eq_nil_of_length_eq_zero (by omega)
    subst this
    rfl
theorem ris_pairs : ∀ {ds : List D}, Ris ds → ∀ p ∈ zipD (ds.take (ds.length - 1)) (ds.drop 1), ∃ x y, p = .tuple [x, y] ∧ ltO x y = some true
  | [], _, p, h => by simp [zipD] at h
  | [x], _, p, h => by simp [zipD] at h
  | x :: y :: r, hr, p, h => by
    have e : zipD ((x :: y :: r).take ((x :: y :: r).length - 1)) ((x :: y :: r).drop 1) = .tuple [x, y] :: zipD ((y :: r).take ((y :: r).length - 1)) ((y :: r).drop 1) := by
      simp [zipD]
    rw [e] at h
    rcases List.mem_cons.mp h with rfl | h
    · exact ⟨x, y, rfl, hr.1⟩
    · exact ris_pairs (ds := y :: r) hr.2 p h
theorem are_rising_l (ds : List D) (h : Ris ds) : callD (FN lw) (n + 1) 3 [.v (.list ds)] = some (.v (.bool true), [.v (.list ds)]) := by
  rw [callS (fd := Lib.b_are_rising) rfl]
  unfold Lib.b_are_rising
  one_item
  obtain ⟨s', e, u, v, rfl⟩ := lc_all (f := lcF (callD (FN lw) n) [1, 2] (.cmp .lt (.nm 1) (.nm 2)) (.tp [(.nm 1), (.nm 2)]) []) (fun s' => ∃ u v, s' = [some (.v (.list ds)), u, v]) (xs := zipD (ds.take (ds.length - 1)) (ds.drop 1)) (fun p hp s' ⟨u, v, e⟩ => by
    subst e
    obtain ⟨x, y, rfl, hl⟩ := ris_pairs h p hp
    refine ⟨[some (.v (.list ds)), some (.v x), some (.v y)], ?_, ⟨_, _, rfl⟩⟩
    unfold lcF
    one_item
    rw [hl]
    rfl) [some (.v (.list ds)), none, none] ⟨_, _, rfl⟩
  rw [lc_run (xs := zipD (ds.take (ds.length - 1)) (ds.drop 1)) (r1 := [some (.v (.list ds)), none, none]) (by
    one_item
    rw [← cut_init, ← cut_tail]
    rfl) e]
  one_item
end
/-! ### rules -/
abbrev CurT := Str × Int × Int
abbrev RatT := Str × Str × Int × Int × Int
abbrev TaxT := Str × Int × Int × Int × Str
abbrev CusT := Int × Str
def encC (c : CurT) : D := .tuple [.str c.1, .int c.2.1, .int c.2.2]
def encR (c : RatT) : D := .tuple [.str c.1, .str c.2.1, .int c.2.2.1, .int c.2.2.2.1, .int c.2.2.2.2]
def encT (c : TaxT) : D := .tuple [.str c.1, .int c.2.1, .int c.2.2.1, .int c.2.2.2.1, .str c.2.2.2.2]
def encU (c : CusT) : D := .tuple [.int c.1, .str c.2]
structure RulesT where
  cur : List CurT
  rat : List RatT
  tax : List TaxT
  cus : List CusT
def RulesT.enc (R : RulesT) : D := .tuple [.tuple (R.cur.map encC), .tuple (R.rat.map encR), .tuple (R.tax.map encT), .tuple (R.cus.map encU)]
def codes (R : RulesT) : List Str := R.cur.map (·.1)
def isCode (s : Str) : Prop := lettersB s = true ∧ s.length = 3
def customs6 : List Str := ["down", "even", "far", "in", "out", "up"]
structure CurOk (c : CurT) : Prop where
  code : isCode c.1
  places : 0 ≤ c.2.1 ∧ c.2.1 ≤ 3
  cash : 1 ≤ c.2.2 ∧ c.2.2 ≤ 100
structure RatOk (cs : List Str) (c : RatT) : Prop where
  c1 : isCode c.1 ∧ c.1 ∈ cs
  c2 : isCode c.2.1 ∧ c.2.1 ∈ cs
  lt : c.1.cps.toList < c.2.1.cps.toList
  day : 0 ≤ c.2.2.1 ∧ c.2.2.1 ≤ 9999
  top : 1 ≤ c.2.2.2.1 ∧ c.2.2.2.1 ≤ 100000
  bot : 1 ≤ c.2.2.2.2 ∧ c.2.2.2.2 ≤ 100000
structure TaxOk (c : TaxT) : Prop where
  sort : lettersB c.1 = true ∧ 1 ≤ c.1.length ∧ c.1.length ≤ 8
  day : 0 ≤ c.2.1 ∧ c.2.1 ≤ 9999
  bot : 1 ≤ c.2.2.2.1 ∧ c.2.2.2.1 ≤ 1000
  top : 0 ≤ c.2.2.1 ∧ c.2.2.1 ≤ c.2.2.2.1
  way : c.2.2.2.2 = "on" ∨ c.2.2.2.2 = "within"
structure CusOk (c : CusT) : Prop where
  day : 0 ≤ c.1 ∧ c.1 ≤ 9999
  cus : c.2 ∈ customs6
structure RulesOk (R : RulesT) : Prop where
  cur : ∀ c ∈ R.cur, CurOk c
  curN : 1 ≤ R.cur.length ∧ R.cur.length ≤ 5
  curR : Ris (R.cur.map fun c => .str c.1)
  rat : ∀ c ∈ R.rat, RatOk (codes R) c
  ratN : R.rat.length ≤ 20
  ratR : Ris (R.rat.map fun c => .tuple [.str c.1, .str c.2.1, .int c.2.2.1])
  tax : ∀ c ∈ R.tax, TaxOk c
  taxN : R.tax.length ≤ 12
  taxR : Ris (R.tax.map fun c => .tuple [.str c.1, .int c.2.1])
  cus : ∀ c ∈ R.cus, CusOk c
  cusN : R.cus.length ≤ 5
  cusR : Ris (R.cus.map fun c => .int c.1)
  cus0 : R.cus = [] ∨ ∃ s r, R.cus = (0, s) :: r
/-- is a text among texts? -/
theorem memD_s (x : Str) (xs : List Str) : memD (.str x) (xs.map .str) = some (decide (x ∈ xs)) := by
  have h1 : noDictAll (xs.map PyData.str) = true := by
    induction xs with
    | nil => rfl
    | cons y ys ih => exact ih
  unfold memD
  rw [if_pos (by rw [h1]; rfl)]
  congr 1
  induction xs with
  | nil => rfl
  | cons y ys ih =>
    have h2 : noDictAll (ys.map PyData.str) = true := by exact h1
    rw [List.map_cons, List.any_cons, ih h2]
    have : PyData.eqv (.str y) (.str x) = decide (y = x) := rfl
    rw [this]
    by_cases e : y = x
    · subst e
      simp
    · have e' : ¬ x = y := fun z => e z.symm
      simp [e, e']
section
variable {lw : List Fd} (n : Nat)
theorem inO_sl (x : Str) (xs : List Str) : inO (.v (.str x)) (.v (.list (xs.map .str))) = some (decide (x ∈ xs)) := memD_s x xs
theorem inO_st (x : Str) (xs : List Str) : inO (.v (.str x)) (.v (.tuple (xs.map .str))) = some (decide (x ∈ xs)) := memD_s x xs
theorem is_custom_s (s : Str) (h : s ∈ customs6) : callD (FN lw) (n + 1) 13 [.v (.str s)] = some (.v (.bool true), [.v (.str s)]) := by
  rw [callS (fd := Lib.b_is_custom) rfl]
  unfold Lib.b_is_custom
  one_item
  rw [show inO (.v (.str s)) (.v (.tuple [.str "down", .str "even", .str "far", .str "in", .str "out", .str "up"])) = some true from by
    rw [← decide_eq_true h]
    exact inO_st s customs6]
  one_item
theorem is_currency_c (c : CurT) (h : CurOk c) : callD (FN lw) (n + 3) 17 [.v (encC c)] = some (.v (.bool true), [.v (encC c)]) := by
  rw [callS (fd := Lib.b_is_currency) rfl]
  unfold Lib.b_is_currency encC
  one_item
  rw [is_row_t]
  one_item
  rw [is_code_s n c.1 h.code.1 h.code.2]
  one_item
  rw [is_among_i n _ _ _ h.places]
  one_item
  rw [is_among_i n _ _ _ h.cash]
  one_item
theorem is_custom_row_c (c : CusT) (h : CusOk c) : callD (FN lw) (n + 3) 20 [.v (encU c)] = some (.v (.bool true), [.v (encU c)]) := by
  rw [callS (fd := Lib.b_is_custom_row) rfl]
  unfold Lib.b_is_custom_row encU
  one_item
  rw [is_row_t]
  one_item
  rw [is_among_i n _ _ _ h.day]
  one_item
  rw [is_custom_s _ _ h.cus]
  one_item
theorem is_tax_c (c : TaxT) (h : TaxOk c) : callD (FN lw) (n + 3) 19 [.v (encT c)] = some (.v (.bool true), [.v (encT c)]) := by
  rw [callS (fd := Lib.b_is_tax) rfl]
  unfold Lib.b_is_tax encT
  one_item
  rw [is_row_t]
  one_item
  rw [is_word_s n c.1 h.sort.1 h.sort.2]
  one_item
  rw [is_among_i n _ _ _ h.day]
  one_item
  rw [is_among_i n _ _ _ h.bot]
  one_item
  rw [is_among_i n _ _ _ h.top]
  one_item
  rw [show inO (.v (.str c.2.2.2.2)) (.v (.tuple [.str "on", .str "within"])) = some true from by
    have : c.2.2.2.2 ∈ (["on", "within"] : List Str) := by
      rcases h.way with e | e
      · rw [e]; exact List.mem_cons_self
      · rw [e]; exact List.mem_cons_of_mem _ List.mem_cons_self
    rw [← decide_eq_true this]
    exact inO_st _ ["on", "within"]]
  one_item
theorem are_few_t (ds : List D) (lo hi : Int) (h : lo ≤ ds.length ∧ (ds.length : Int) ≤ hi) : callD (FN lw) (n + 1) 21 [.v (.tuple ds), .v (.int lo), .v (.int hi)] = some (.v (.bool true), [.v (.tuple ds), .v (.int lo), .v (.int hi)]) := by
  have e1 := decide_eq_true h.1
  have e2 := decide_eq_true h.2
  rw [callS (fd := Lib.b_are_few) rfl]
  unfold Lib.b_are_few
  one_place
end
end Mp
end

/-! ## S3 -/
section
set_option linter.all false
set_option maxRecDepth 100000
namespace Mp
open PySem
local macro_rules | `(tactic| one_item) => `(tactic| simp (config := { decide := false }) only [↓bnd_p, bnd_s, bnd_n, runF_e, endF_nx, endF_rt, exs_c, exs_n, seqF_nx, seqF_rt, seqF_bk, seqF_ct, ex.eq_1, ex.eq_2, ex.eq_3, ex.eq_4, ex.eq_5, ex.eq_6, ex.eq_7, ex.eq_8, ex.eq_9, ex.eq_10, ex.eq_11, ex.eq_12, ex.eq_15, ex.eq_16, ex.eq_17, ex.eq_18, ev.eq_1, ev.eq_2, ev.eq_3, ev.eq_4, ev.eq_5, ev.eq_6, ev.eq_7, ev.eq_8, ev.eq_9, ev.eq_10, ev.eq_11, ev.eq_12, ev.eq_13, ev.eq_14, ev.eq_15, ev.eq_16, ev.eq_17, ev.eq_18, ev.eq_19, ev.eq_20, ev.eq_23, ev.eq_24, ev.eq_25, ev.eq_26, ev.eq_27, evs, evas, evac, evc, evo, evod, evit.eq_1, evit.eq_3, evit.eq_4, evit.eq_5, evit.eq_6, evit.eq_7, evOs, arB_cst, arC_cst, arB_bin, arC_bin, arB_neg, arC_neg, arB_not, arC_not, arB_cmp, arC_cmp, arB_chn, arC_chn, arB_and, arC_and, arB_or, arC_or, arB_ife, arC_ife, arB_tup, arC_tup, arB_lst, arC_lst, arB_dct, arC_dct, arB_idx, arC_idx, arB_slc, arC_slc, arB_stp, arC_stp, arB_cal, arC_cal, arB_blt, arC_blt, arB_mth, arC_mth, arB_isi, arC_isi, arB_lc, arC_lc, arB_dc, arC_dc, arB_pop, arC_pop, arB_app, arC_app, arB_ext, arC_ext, arB_upd, arC_upd, arB_fst, arC_fst, arB_n, arC_n, arN_s, rdA_v, rdA_s, rdAs, hand, ownSl, putB, nodO, isLst, selK, binO, cmpO, ownIx, outs, pairUp_n, pairUp_s, mrg_n, isOwn_v, isOwn_l, isOwn_d, isOO_v, isOO_l, isOO_d, isO_n, isO_b, isNn_n, isNn_i, isNn_b, isNn_s, isNn_t, isNn_l, notB, leO_i, geO_i, ltO_i, gtO_i, eqO, intsO_i, addO_i, addO_t, addO_l, mulO_i, bolO_b, intO_i, isiD, idxO_t, idxO_l, idxO_vl, dctO_d, dctO_v, seqD_l, seqD_t, seqD_vl, lstO_l, lstO_vl, tupO_t, blO, one_e, two_e, absO_i, intB_i, intB_b, onInts_l, onBools_l, min2_i, max2_i, len_t, len_l, len_vl, len_s, setO_l, ixSet_e, List.set_cons_zero, List.set_cons_succ, asgT_n, asgT_t, asgTs_n, asgTs_c, tgOk_n, tgOk_t, tgsOk_n, tgsOk_c, setOs, wipe, back, slcO_t, slcO_vl, slcO_l, itO_l, itO_vl, itO_t, frA, d_v, d_l, d_d, at_z, at_s, set_z, set_s, ixI_0, ixI_1, ixI_2, ixI_3, ixI_4, eqP_i, eqP_s, nc, List.length_cons, List.length_nil, List.map_cons, List.map_nil, List.cons_append, List.nil_append, List.append_nil, rep_s, rep_z, all_rep, Nat.reduceAdd, Nat.reduceSub, Nat.reduceEqDiff, List.getElem?_cons_zero, List.getElem?_cons_succ, ↓Option.bind_eq_bind, Option.bind_some, Option.bind_none, Option.map_some, Option.map_none, Option.pure_def, if_true, if_false, ite_true, ite_false, reduceIte, Bool.not_true, Bool.not_false, Bool.false_eq_true, List.any_cons, List.any_nil, List.contains_cons, List.contains_nil, Bool.or_false, Bool.false_or, Bool.or_self, Bool.and_true, Bool.true_and, Bool.and_self, Bool.and_false, Bool.false_and, Bool.or_true, Bool.true_or, List.nodup_nil, List.nodup_cons, List.mem_cons, List.not_mem_nil, or_false, or_self, not_false_eq_true, and_true, and_self, Nat.reduceEqDiff, Nat.succ_ne_zero, Nat.zero_ne_one, Nat.one_ne_zero, beq_self_eq_true, Nat.reduceBEq, Int.reduceMul, Int.reduceNeg, decide_true, decide_false, Int.reduceLT, Int.reduceLE, Int.reduceEq, Int.ofNat_eq_natCast])
local macro_rules | `(tactic| one_place) => `(tactic| simp (config := { decide := false }) only [↓bnd_p, bnd_s, bnd_n, runF_e, endF_nx, endF_rt, exs_c, exs_n, seqF_nx, seqF_rt, seqF_bk, seqF_ct, ex.eq_1, ex.eq_2, ex.eq_3, ex.eq_4, ex.eq_5, ex.eq_6, ex.eq_7, ex.eq_8, ex.eq_9, ex.eq_10, ex.eq_11, ex.eq_12, ex.eq_15, ex.eq_16, ex.eq_17, ex.eq_18, ev.eq_1, ev.eq_2, ev.eq_3, ev.eq_4, ev.eq_5, ev.eq_6, ev.eq_7, ev.eq_8, ev.eq_9, ev.eq_10, ev.eq_11, ev.eq_12, ev.eq_13, ev.eq_14, ev.eq_15, ev.eq_16, ev.eq_17, ev.eq_18, ev.eq_19, ev.eq_20, ev.eq_23, ev.eq_24, ev.eq_25, ev.eq_26, ev.eq_27, evs, evas, evac, evc, evo, evod, evit.eq_1, evit.eq_3, evit.eq_4, evit.eq_5, evit.eq_6, evit.eq_7, evOs, arB_cst, arC_cst, arB_bin, arC_bin, arB_neg, arC_neg, arB_not, arC_not, arB_cmp, arC_cmp, arB_chn, arC_chn, arB_and, arC_and, arB_or, arC_or, arB_ife, arC_ife, arB_tup, arC_tup, arB_lst, arC_lst, arB_dct, arC_dct, arB_idx, arC_idx, arB_slc, arC_slc, arB_stp, arC_stp, arB_cal, arC_cal, arB_blt, arC_blt, arB_mth, arC_mth, arB_isi, arC_isi, arB_lc, arC_lc, arB_dc, arC_dc, arB_pop, arC_pop, arB_app, arC_app, arB_ext, arC_ext, arB_upd, arC_upd, arB_fst, arC_fst, arB_n, arC_n, arN_s, rdA_v, rdA_s, rdAs, hand, ownSl, putB, nodO, isLst, selK, binO, cmpO, ownIx, outs, pairUp_n, pairUp_s, mrg_n, isOwn_v, isOwn_l, isOwn_d, isOO_v, isOO_l, isOO_d, isO_n, isO_b, isNn_n, isNn_i, isNn_b, isNn_s, isNn_t, isNn_l, notB, leO_i, geO_i, ltO_i, gtO_i, eqO, intsO_i, addO_i, addO_t, addO_l, mulO_i, bolO_b, intO_i, isiD, idxO_t, idxO_l, idxO_vl, dctO_d, dctO_v, seqD_l, seqD_t, seqD_vl, lstO_l, lstO_vl, tupO_t, blO, one_e, two_e, absO_i, intB_i, intB_b, onInts_l, onBools_l, min2_i, max2_i, len_t, len_l, len_vl, len_s, setO_l, ixSet_e, List.set_cons_zero, List.set_cons_succ, asgT_n, asgT_t, asgTs_n, asgTs_c, tgOk_n, tgOk_t, tgsOk_n, tgsOk_c, setOs, wipe, back, slcO_t, slcO_vl, slcO_l, itO_l, itO_vl, itO_t, frA, d_v, d_l, d_d, at_z, at_s, set_z, set_s, ixI_0, ixI_1, ixI_2, ixI_3, ixI_4, eqP_i, eqP_s, nc, List.length_cons, List.length_nil, List.map_cons, List.map_nil, List.cons_append, List.nil_append, List.append_nil, rep_s, rep_z, all_rep, Nat.reduceAdd, Nat.reduceSub, Nat.reduceEqDiff, List.getElem?_cons_zero, List.getElem?_cons_succ, ↓Option.bind_eq_bind, Option.bind_some, Option.bind_none, Option.map_some, Option.map_none, Option.pure_def, if_true, if_false, ite_true, ite_false, reduceIte, Bool.not_true, Bool.not_false, Bool.false_eq_true, List.any_cons, List.any_nil, List.contains_cons, List.contains_nil, Bool.or_false, Bool.false_or, Bool.or_self, Bool.and_true, Bool.true_and, Bool.and_self, Bool.and_false, Bool.false_and, Bool.or_true, Bool.true_or, List.nodup_nil, List.nodup_cons, List.mem_cons, List.not_mem_nil, or_false, or_self, not_false_eq_true, and_true, and_self, Nat.reduceEqDiff, Nat.succ_ne_zero, Nat.zero_ne_one, Nat.one_ne_zero, beq_self_eq_true, Nat.reduceBEq, Int.reduceMul, Int.reduceNeg, decide_true, decide_false, Int.reduceLT, Int.reduceLE, Int.reduceEq, Int.ofNat_eq_natCast, *])
section
variable {lw : List Fd} (n : Nat)
theorem cut_to {ds : List D} {k : Nat} (h : k ≤ ds.length) : cutL ds none (some (k : Int)) = ds.take k := by
  unfold cutL sIx
  simp only [List.drop_zero, Nat.sub_zero]
  rw [if_neg (by omega)]
  congr 1
  omega
theorem cut_from {ds : List D} {k : Nat} (h : k ≤ ds.length) : cutL ds (some (k : Int)) none = ds.drop k := by
  unfold cutL sIx
  simp only
  rw [if_neg (by omega)]
  have : min (Int.toNat k) ds.length = k := by omega
  rw [this]
  exact List.take_of_length_le (by rw [List.length_drop]; omega)
theorem ltO_s {x y : Str} : ltO (.str x) (.str y) = some (decide (x.cps.toList < y.cps.toList)) := rfl
theorem is_rate_c (cs : List Str) (c : RatT) (h : RatOk cs c) : callD (FN lw) (n + 3) 18 [.v (encR c), .v (.list (cs.map .str))] = some (.v (.bool true), [.v (encR c), .v (.list (cs.map .str))]) := by
  obtain ⟨a, b, d, t, m⟩ := c
  obtain ⟨c1, c2, lt, day, top, bot⟩ := h
  simp only at c1 c2 lt day top bot
  have q1 : cutL [PyData.str a, .str b, .int d, .int t, .int m] none (some 2) = [.str a, .str b] := rfl
  have q2 : cutL [PyData.str a, .str b, .int d, .int t, .int m] (some 3) none = [.int t, .int m] := rfl
  have q3 := decide_eq_true lt
  rw [callS (fd := Lib.b_is_rate) rfl]
  unfold Lib.b_is_rate encR
  one_item
  rw [is_row_t]
  one_item
  obtain ⟨s1, e1, u1, rfl⟩ := lc_all (f := lcF (callD (FN lw) (n + 2)) [2] (.and (.cal 6 [(.nm 2)] [] []) (.cmp .isin (.nm 2) (.nm 1))) (.nm 2) [])
    (fun s => ∃ u, s = [some (.v (.tuple [.str a, .str b, .int d, .int t, .int m])), some (.v (.list (cs.map .str))), u]) (xs := [.str a, .str b]) (fun x hx s ⟨u, e⟩ => by
      subst e
      have hx : ∃ y, x = .str y ∧ isCode y ∧ y ∈ cs := by
        simp only [List.mem_cons, List.not_mem_nil, or_false] at hx
        rcases hx with rfl | rfl
        · exact ⟨_, rfl, c1⟩
        · exact ⟨_, rfl, c2⟩
      obtain ⟨y, rfl, hy, hm⟩ := hx
      refine ⟨[some (.v (.tuple [.str a, .str b, .int d, .int t, .int m])), some (.v (.list (cs.map .str))), some (.v (.str y))], ?_, ⟨_, rfl⟩⟩
      unfold lcF
      one_item
      rw [is_code_s _ y hy.1 hy.2]
      one_item
      rw [inO_sl, decide_eq_true hm]
      one_item) [some (.v (.tuple [.str a, .str b, .int d, .int t, .int m])), some (.v (.list (cs.map .str))), none] ⟨_, rfl⟩
  rw [lc_run (xs := [.str a, .str b]) (r1 := [some (.v (.tuple [.str a, .str b, .int d, .int t, .int m])), some (.v (.list (cs.map .str))), none]) (by one_place) e1]
  one_item
  rw [ltO_s, q3]
  one_item
  rw [is_among_i _ _ _ _ day]
  one_item
  obtain ⟨s1, e1, u1, rfl⟩ := lc_all (f := lcF (callD (FN lw) (n + 2)) [2] (.cal 2 [(.nm 2), (.cst (.int 1)), (.cst (.int 100000))] [] []) (.nm 2) [])
    (fun s => ∃ u, s = [some (.v (.tuple [.str a, .str b, .int d, .int t, .int m])), some (.v (.list (cs.map .str))), u]) (xs := [.int t, .int m]) (fun x hx s ⟨u, e⟩ => by
      subst e
      have hx : ∃ y, x = .int y ∧ 1 ≤ y ∧ y ≤ 100000 := by
        simp only [List.mem_cons, List.not_mem_nil, or_false] at hx
        rcases hx with rfl | rfl
        · exact ⟨_, rfl, top⟩
        · exact ⟨_, rfl, bot⟩
      obtain ⟨y, rfl, hy⟩ := hx
      refine ⟨[some (.v (.tuple [.str a, .str b, .int d, .int t, .int m])), some (.v (.list (cs.map .str))), some (.v (.int y))], ?_, ⟨_, rfl⟩⟩
      unfold lcF
      one_item
      rw [is_among_i _ _ _ _ hy]
      one_item) [some (.v (.tuple [.str a, .str b, .int d, .int t, .int m])), some (.v (.list (cs.map .str))), none] ⟨_, rfl⟩
  rw [lc_run (xs := [.int t, .int m]) (r1 := [some (.v (.tuple [.str a, .str b, .int d, .int t, .int m])), some (.v (.list (cs.map .str))), none]) (by one_place) e1]
  one_item
theorem mem_map_ex {α : Type} {enc : α → D} {P : α → Prop} {xs : List α} (h : ∀ c ∈ xs, P c) {x : D} (hx : x ∈ xs.map enc) : ∃ c, x = enc c ∧ P c := by
  obtain ⟨c, hc, rfl⟩ := List.mem_map.mp hx
  exact ⟨c, rfl, h c hc⟩
theorem map_map_D {α : Type} {enc : α → D} {F : D → D} {G : α → D} (h : ∀ c, F (enc c) = G c) (xs : List α) : (xs.map enc).map F = xs.map G := by
  rw [List.map_map]
  exact List.map_congr_left fun c _ => h c
/-- what stands first in a row -/
def hd0 : D → D
  | .tuple (x :: _) => x
  | d => d
theorem are_currencies_c (cs : List CurT) (h : ∀ c ∈ cs, CurOk c) (hn : 1 ≤ cs.length ∧ cs.length ≤ 5) (hr : Ris (cs.map fun c => .str c.1)) : callD (FN lw) (n + 4) 22 [.v (.tuple (cs.map encC))] = some (.v (.bool true), [.v (.tuple (cs.map encC))]) := by
  generalize hd : cs.map encC = ds
  rw [callS (fd := Lib.b_are_currencies) rfl]
  unfold Lib.b_are_currencies
  one_item
  rw [are_few_t _ _ _ _ (by rw [← hd, List.length_map]; omega)]
  one_item
  obtain ⟨s1, e1, u1, rfl⟩ := lc_all (f := lcF (callD (FN lw) (n + 3)) [1] (.cal 17 [(.nm 1)] [] []) (.nm 1) []) (fun s => ∃ u, s = [some (.v (.tuple ds)), u]) (xs := ds) (fun x hx s ⟨u, e⟩ => by
    subst e
    obtain ⟨c, rfl, hc⟩ := mem_map_ex h (hd ▸ hx)
    refine ⟨[some (.v (.tuple ds)), some (.v (encC c))], ?_, ⟨_, rfl⟩⟩
    unfold lcF
    one_item
    rw [is_currency_c _ c hc]
    one_item) [some (.v (.tuple ds)), none] ⟨_, rfl⟩
  rw [lc_run (xs := ds) (r1 := [some (.v (.tuple ds)), none]) (by one_item) e1]
  one_item
  obtain ⟨s1, e1, u1, rfl⟩ := lc_map (f := lcF (callD (FN lw) (n + 3)) [1] (.idx (.nm 1) (.cst (.int 0))) (.nm 1) []) (fun s => ∃ u, s = [some (.v (.tuple ds)), u]) (F := hd0) (xs := ds) (fun x hx s ⟨u, e⟩ => by
    subst e
    obtain ⟨c, rfl, hc⟩ := mem_map_ex h (hd ▸ hx)
    refine ⟨[some (.v (.tuple ds)), some (.v (encC c))], ?_, ⟨_, rfl⟩⟩
    unfold lcF encC hd0
    one_item) [some (.v (.tuple ds)), none] ⟨_, rfl⟩
  rw [lc_run (xs := ds) (r1 := [some (.v (.tuple ds)), none]) (by one_item) e1]
  one_item
  rw [are_rising_l _ _ (by
    rw [← hd, map_map_D (G := fun c => .str c.1) fun c => rfl]
    exact hr)]
  one_item
theorem are_customs_c (cs : List CusT) (h : ∀ c ∈ cs, CusOk c) (hn : cs.length ≤ 5) (hr : Ris (cs.map fun c => .int c.1)) (h0 : cs = [] ∨ ∃ s r, cs = (0, s) :: r) : callD (FN lw) (n + 4) 25 [.v (.tuple (cs.map encU))] = some (.v (.bool true), [.v (.tuple (cs.map encU))]) := by
  generalize hd : cs.map encU = ds
  rw [callS (fd := Lib.b_are_customs) rfl]
  unfold Lib.b_are_customs
  one_item
  rw [are_few_t _ _ _ _ (by rw [← hd, List.length_map]; omega)]
  one_item
  obtain ⟨s1, e1, u1, rfl⟩ := lc_all (f := lcF (callD (FN lw) (n + 3)) [1] (.cal 20 [(.nm 1)] [] []) (.nm 1) []) (fun s => ∃ u, s = [some (.v (.tuple ds)), u]) (xs := ds) (fun x hx s ⟨u, e⟩ => by
    subst e
    obtain ⟨c, rfl, hc⟩ := mem_map_ex h (hd ▸ hx)
    refine ⟨[some (.v (.tuple ds)), some (.v (encU c))], ?_, ⟨_, rfl⟩⟩
    unfold lcF
    one_item
    rw [is_custom_row_c _ c hc]
    one_item) [some (.v (.tuple ds)), none] ⟨_, rfl⟩
  rw [lc_run (xs := ds) (r1 := [some (.v (.tuple ds)), none]) (by one_item) e1]
  one_item
  obtain ⟨s1, e1, u1, rfl⟩ := lc_map (f := lcF (callD (FN lw) (n + 3)) [1] (.idx (.nm 1) (.cst (.int 0))) (.nm 1) []) (fun s => ∃ u, s = [some (.v (.tuple ds)), u]) (F := hd0) (xs := ds) (fun x hx s ⟨u, e⟩ => by
    subst e
    obtain ⟨c, rfl, hc⟩ := mem_map_ex h (hd ▸ hx)
    refine ⟨[some (.v (.tuple ds)), some (.v (encU c))], ?_, ⟨_, rfl⟩⟩
    unfold lcF encU hd0
    one_item) [some (.v (.tuple ds)), none] ⟨_, rfl⟩
  rw [lc_run (xs := ds) (r1 := [some (.v (.tuple ds)), none]) (by one_item) e1]
  one_item
  rw [are_rising_l _ _ (by
    rw [← hd, map_map_D (G := fun c => .int c.1) fun c => rfl]
    exact hr)]
  one_item
  rcases h0 with rfl | ⟨s, r, rfl⟩
  · subst hd
    rfl
  · subst hd
    have hz : eqP (.tuple (((0, s) :: r).map encU)) (.tuple []) = some false := eqP_of (k := 2) (l := 1) (.tup (.map fun c => .tup (.cons .int (.cons .str .nil)))) (.tup .nil) (by decide) (by decide)
    rw [hz]
    one_item
    unfold encU
    one_item
theorem are_taxes_c (cs : List TaxT) (h : ∀ c ∈ cs, TaxOk c) (hn : cs.length ≤ 12) (hr : Ris (cs.map fun c => .tuple [.str c.1, .int c.2.1])) : callD (FN lw) (n + 4) 24 [.v (.tuple (cs.map encT))] = some (.v (.bool true), [.v (.tuple (cs.map encT))]) := by
  generalize hd : cs.map encT = ds
  rw [callS (fd := Lib.b_are_taxes) rfl]
  unfold Lib.b_are_taxes
  one_item
  rw [are_few_t _ _ _ _ (by rw [← hd, List.length_map]; omega)]
  one_item
  obtain ⟨s1, e1, u1, rfl⟩ := lc_all (f := lcF (callD (FN lw) (n + 3)) [1] (.cal 19 [(.nm 1)] [] []) (.nm 1) []) (fun s => ∃ u, s = [some (.v (.tuple ds)), u]) (xs := ds) (fun x hx s ⟨u, e⟩ => by
    subst e
    obtain ⟨c, rfl, hc⟩ := mem_map_ex h (hd ▸ hx)
    refine ⟨[some (.v (.tuple ds)), some (.v (encT c))], ?_, ⟨_, rfl⟩⟩
    unfold lcF
    one_item
    rw [is_tax_c _ c hc]
    one_item) [some (.v (.tuple ds)), none] ⟨_, rfl⟩
  rw [lc_run (xs := ds) (r1 := [some (.v (.tuple ds)), none]) (by one_item) e1]
  one_item
  obtain ⟨s1, e1, u1, rfl⟩ := lc_map (f := lcF (callD (FN lw) (n + 3)) [1] (.slc (.nm 1) none (some (.cst (.int 2)))) (.nm 1) []) (fun s => ∃ u, s = [some (.v (.tuple ds)), u]) (F := fun d => match d with
      | .tuple xs => .tuple (cutL xs none (some 2))
      | d => d) (xs := ds) (fun x hx s ⟨u, e⟩ => by
    subst e
    obtain ⟨c, rfl, hc⟩ := mem_map_ex h (hd ▸ hx)
    refine ⟨[some (.v (.tuple ds)), some (.v (encT c))], ?_, ⟨_, rfl⟩⟩
    unfold lcF encT
    one_item) [some (.v (.tuple ds)), none] ⟨_, rfl⟩
  rw [lc_run (xs := ds) (r1 := [some (.v (.tuple ds)), none]) (by one_item) e1]
  one_item
  rw [are_rising_l _ _ (by
    rw [← hd, map_map_D (G := fun c => .tuple [.str c.1, .int c.2.1]) fun c => rfl]
    exact hr)]
  one_item
theorem are_rates_c (zs : List Str) (cs : List RatT) (h : ∀ c ∈ cs, RatOk zs c) (hn : cs.length ≤ 20) (hr : Ris (cs.map fun c => .tuple [.str c.1, .str c.2.1, .int c.2.2.1])) :
    callD (FN lw) (n + 4) 23 [.v (.tuple (cs.map encR)), .v (.list (zs.map .str))] = some (.v (.bool true), [.v (.tuple (cs.map encR)), .v (.list (zs.map .str))]) := by
  generalize hd : cs.map encR = ds
  rw [callS (fd := Lib.b_are_rates) rfl]
  unfold Lib.b_are_rates
  one_item
  rw [are_few_t _ _ _ _ (by rw [← hd, List.length_map]; omega)]
  one_item
  obtain ⟨s1, e1, u1, rfl⟩ := lc_all (f := lcF (callD (FN lw) (n + 3)) [2] (.cal 18 [(.nm 2), (.nm 1)] [] []) (.nm 2) []) (fun s => ∃ u, s = [some (.v (.tuple ds)), some (.v (.list (zs.map .str))), u]) (xs := ds) (fun x hx s ⟨u, e⟩ => by
    subst e
    obtain ⟨c, rfl, hc⟩ := mem_map_ex h (hd ▸ hx)
    refine ⟨[some (.v (.tuple ds)), some (.v (.list (zs.map .str))), some (.v (encR c))], ?_, ⟨_, rfl⟩⟩
    unfold lcF
    one_item
    rw [is_rate_c _ zs c hc]
    one_item) [some (.v (.tuple ds)), some (.v (.list (zs.map .str))), none] ⟨_, rfl⟩
  rw [lc_run (xs := ds) (r1 := [some (.v (.tuple ds)), some (.v (.list (zs.map .str))), none]) (by one_item) e1]
  one_item
  obtain ⟨s1, e1, u1, rfl⟩ := lc_map (f := lcF (callD (FN lw) (n + 3)) [2] (.slc (.nm 2) none (some (.cst (.int 3)))) (.nm 2) []) (fun s => ∃ u, s = [some (.v (.tuple ds)), some (.v (.list (zs.map .str))), u]) (F := fun d => match d with
      | .tuple xs => .tuple (cutL xs none (some 3))
      | d => d) (xs := ds) (fun x hx s ⟨u, e⟩ => by
    subst e
    obtain ⟨c, rfl, hc⟩ := mem_map_ex h (hd ▸ hx)
    refine ⟨[some (.v (.tuple ds)), some (.v (.list (zs.map .str))), some (.v (encR c))], ?_, ⟨_, rfl⟩⟩
    unfold lcF encR
    one_item) [some (.v (.tuple ds)), some (.v (.list (zs.map .str))), none] ⟨_, rfl⟩
  rw [lc_run (xs := ds) (r1 := [some (.v (.tuple ds)), some (.v (.list (zs.map .str))), none]) (by one_item) e1]
  one_item
  rw [are_rising_l _ _ (by
    rw [← hd, map_map_D (G := fun c => .tuple [.str c.1, .str c.2.1, .int c.2.2.1]) fun c => rfl]
    exact hr)]
  one_item
theorem codes_of_r (R : RulesT) : callD (FN lw) (n + 1) 26 [.v R.enc] = some (.lst ((codes R).map .str), [.v R.enc]) := by
  rw [callS (fd := Lib.b_codes_of) rfl]
  unfold Lib.b_codes_of RulesT.enc
  generalize hr : PyData.tuple (R.rat.map encR) = r1
  generalize ht : PyData.tuple (R.tax.map encT) = r2
  generalize hu : PyData.tuple (R.cus.map encU) = r3
  one_item
  obtain ⟨s1, e1, u1, rfl⟩ := lc_map (f := lcF (callD (FN lw) n) [1] (.idx (.nm 1) (.cst (.int 0))) (.nm 1) []) (fun s => ∃ u, s = [some (.v (.tuple [.tuple (R.cur.map encC), r1, r2, r3])), u]) (F := hd0) (xs := R.cur.map encC) (fun x hx s ⟨u, e⟩ => by
    subst e
    obtain ⟨c, hc, rfl⟩ := List.mem_map.mp hx
    refine ⟨[some (.v (.tuple [.tuple (R.cur.map encC), r1, r2, r3])), some (.v (encC c))], ?_, ⟨_, rfl⟩⟩
    unfold lcF encC hd0
    one_item) [some (.v (.tuple [.tuple (R.cur.map encC), r1, r2, r3])), none] ⟨_, rfl⟩
  rw [lc_run (xs := R.cur.map encC) (r1 := [some (.v (.tuple [.tuple (R.cur.map encC), r1, r2, r3])), none]) (by one_item) e1]
  one_item
  rw [map_map_D (G := fun c => .str c.1) fun c => rfl]
  unfold codes
  rw [List.map_map]
  rfl
theorem need_rules_r (R : RulesT) (h : RulesOk R) : callD (FN lw) (n + 6) 28 [.v R.enc] = some (.v .none, [.v R.enc]) := by
  have e : callD (FN lw) (n + 5) 27 [.v R.enc] = some (.v (.bool true), [.v R.enc]) := by
    have c1 := codes_of_r (lw := lw) (n + 3) R
    rw [callS (fd := Lib.b_are_rules) rfl]
    unfold Lib.b_are_rules
    unfold RulesT.enc at c1 ⊢
    one_item
    rw [is_row_t]
    one_item
    rw [are_currencies_c _ _ h.cur h.curN h.curR]
    one_item
    rw [c1]
    one_item
    rw [are_rates_c _ _ _ h.rat h.ratN h.ratR]
    one_item
    rw [are_taxes_c _ _ h.tax h.taxN h.taxR]
    one_item
    rw [are_customs_c _ _ h.cus h.cusN h.cusR h.cus0]
    one_item
  rw [callS (fd := Lib.b_need_rules) rfl]
  unfold Lib.b_need_rules
  one_item
  rw [e]
  one_item
theorem need_coins_i (i : Int) : callD (FN lw) (n + 2) 29 [.v (.int i), .v .none, .v .none] = some (.v .none, [.v (.int i), .v .none, .v .none]) := by
  rw [callS (fd := Lib.b_need_coins) rfl]
  unfold Lib.b_need_coins
  one_item
  rw [is_whole_i]
  one_item
end
end Mp
end

/-! ## S4 -/
section
set_option linter.all false
set_option maxRecDepth 100000
namespace Mp
open PySem
local macro_rules | `(tactic| one_item) => `(tactic| simp (config := { decide := false }) only [↓bnd_p, bnd_s, bnd_n, runF_e, endF_nx, endF_rt, exs_c, exs_n, seqF_nx, seqF_rt, seqF_bk, seqF_ct, ex.eq_1, ex.eq_2, ex.eq_3, ex.eq_4, ex.eq_5, ex.eq_6, ex.eq_7, ex.eq_8, ex.eq_9, ex.eq_10, ex.eq_11, ex.eq_12, ex.eq_15, ex.eq_16, ex.eq_17, ex.eq_18, ev.eq_1, ev.eq_2, ev.eq_3, ev.eq_4, ev.eq_5, ev.eq_6, ev.eq_7, ev.eq_8, ev.eq_9, ev.eq_10, ev.eq_11, ev.eq_12, ev.eq_13, ev.eq_14, ev.eq_15, ev.eq_16, ev.eq_17, ev.eq_18, ev.eq_19, ev.eq_20, ev.eq_23, ev.eq_24, ev.eq_25, ev.eq_26, ev.eq_27, evs, evas, evac, evc, evo, evod, evit.eq_1, evit.eq_3, evit.eq_4, evit.eq_5, evit.eq_6, evit.eq_7, evOs, arB_cst, arC_cst, arB_bin, arC_bin, arB_neg, arC_neg, arB_not, arC_not, arB_cmp, arC_cmp, arB_chn, arC_chn, arB_and, arC_and, arB_or, arC_or, arB_ife, arC_ife, arB_tup, arC_tup, arB_lst, arC_lst, arB_dct, arC_dct, arB_idx, arC_idx, arB_slc, arC_slc, arB_stp, arC_stp, arB_cal, arC_cal, arB_blt, arC_blt, arB_mth, arC_mth, arB_isi, arC_isi, arB_lc, arC_lc, arB_dc, arC_dc, arB_pop, arC_pop, arB_app, arC_app, arB_ext, arC_ext, arB_upd, arC_upd, arB_fst, arC_fst, arB_n, arC_n, arN_s, rdA_v, rdA_s, rdAs, hand, ownSl, putB, nodO, isLst, selK, binO, cmpO, ownIx, outs, pairUp_n, pairUp_s, mrg_n, isOwn_v, isOwn_l, isOwn_d, isOO_v, isOO_l, isOO_d, isO_n, isO_b, isNn_n, isNn_i, isNn_b, isNn_s, isNn_t, isNn_l, notB, leO_i, geO_i, ltO_i, gtO_i, eqO, intsO_i, addO_i, addO_t, addO_l, mulO_i, bolO_b, intO_i, isiD, idxO_t, idxO_l, idxO_vl, dctO_d, dctO_v, seqD_l, seqD_t, seqD_vl, lstO_l, lstO_vl, tupO_t, blO, one_e, two_e, absO_i, intB_i, intB_b, onInts_l, onBools_l, min2_i, max2_i, len_t, len_l, len_vl, len_s, setO_l, ixSet_e, List.set_cons_zero, List.set_cons_succ, asgT_n, asgT_t, asgTs_n, asgTs_c, tgOk_n, tgOk_t, tgsOk_n, tgsOk_c, setOs, wipe, back, slcO_t, slcO_vl, slcO_l, itO_l, itO_vl, itO_t, frA, d_v, d_l, d_d, at_z, at_s, set_z, set_s, ixI_0, ixI_1, ixI_2, ixI_3, ixI_4, eqP_i, eqP_s, nc, List.length_cons, List.length_nil, List.map_cons, List.map_nil, List.cons_append, List.nil_append, List.append_nil, rep_s, rep_z, all_rep, Nat.reduceAdd, Nat.reduceSub, Nat.reduceEqDiff, List.getElem?_cons_zero, List.getElem?_cons_succ, ↓Option.bind_eq_bind, Option.bind_some, Option.bind_none, Option.map_some, Option.map_none, Option.pure_def, if_true, if_false, ite_true, ite_false, reduceIte, Bool.not_true, Bool.not_false, Bool.false_eq_true, List.any_cons, List.any_nil, List.contains_cons, List.contains_nil, Bool.or_false, Bool.false_or, Bool.or_self, Bool.and_true, Bool.true_and, Bool.and_self, Bool.and_false, Bool.false_and, Bool.or_true, Bool.true_or, List.nodup_nil, List.nodup_cons, List.mem_cons, List.not_mem_nil, or_false, or_self, not_false_eq_true, and_true, and_self, Nat.reduceEqDiff, Nat.succ_ne_zero, Nat.zero_ne_one, Nat.one_ne_zero, beq_self_eq_true, Nat.reduceBEq, Int.reduceMul, Int.reduceNeg, decide_true, decide_false, Int.reduceLT, Int.reduceLE, Int.reduceEq, Int.ofNat_eq_natCast])
local macro_rules | `(tactic| one_place) => `(tactic| simp (config := { decide := false }) only [↓bnd_p, bnd_s, bnd_n, runF_e, endF_nx, endF_rt, exs_c, exs_n, seqF_nx, seqF_rt, seqF_bk, seqF_ct, ex.eq_1, ex.eq_2, ex.eq_3, ex.eq_4, ex.eq_5, ex.eq_6, ex.eq_7, ex.eq_8, ex.eq_9, ex.eq_10, ex.eq_11, ex.eq_12, ex.eq_15, ex.eq_16, ex.eq_17, ex.eq_18, ev.eq_1, ev.eq_2, ev.eq_3, ev.eq_4, ev.eq_5, ev.eq_6, ev.eq_7, ev.eq_8, ev.eq_9, ev.eq_10, ev.eq_11, ev.eq_12, ev.eq_13, ev.eq_14, ev.eq_15, ev.eq_16, ev.eq_17, ev.eq_18, ev.eq_19, ev.eq_20, ev.eq_23, ev.eq_24, ev.eq_25, ev.eq_26, ev.eq_27, evs, evas, evac, evc, evo, evod, evit.eq_1, evit.eq_3, evit.eq_4, evit.eq_5, evit.eq_6, evit.eq_7, evOs, arB_cst, arC_cst, arB_bin, arC_bin, arB_neg, arC_neg, arB_not, arC_not, arB_cmp, arC_cmp, arB_chn, arC_chn, arB_and, arC_and, arB_or, arC_or, arB_ife, arC_ife, arB_tup, arC_tup, arB_lst, arC_lst, arB_dct, arC_dct, arB_idx, arC_idx, arB_slc, arC_slc, arB_stp, arC_stp, arB_cal, arC_cal, arB_blt, arC_blt, arB_mth, arC_mth, arB_isi, arC_isi, arB_lc, arC_lc, arB_dc, arC_dc, arB_pop, arC_pop, arB_app, arC_app, arB_ext, arC_ext, arB_upd, arC_upd, arB_fst, arC_fst, arB_n, arC_n, arN_s, rdA_v, rdA_s, rdAs, hand, ownSl, putB, nodO, isLst, selK, binO, cmpO, ownIx, outs, pairUp_n, pairUp_s, mrg_n, isOwn_v, isOwn_l, isOwn_d, isOO_v, isOO_l, isOO_d, isO_n, isO_b, isNn_n, isNn_i, isNn_b, isNn_s, isNn_t, isNn_l, notB, leO_i, geO_i, ltO_i, gtO_i, eqO, intsO_i, addO_i, addO_t, addO_l, mulO_i, bolO_b, intO_i, isiD, idxO_t, idxO_l, idxO_vl, dctO_d, dctO_v, seqD_l, seqD_t, seqD_vl, lstO_l, lstO_vl, tupO_t, blO, one_e, two_e, absO_i, intB_i, intB_b, onInts_l, onBools_l, min2_i, max2_i, len_t, len_l, len_vl, len_s, setO_l, ixSet_e, List.set_cons_zero, List.set_cons_succ, asgT_n, asgT_t, asgTs_n, asgTs_c, tgOk_n, tgOk_t, tgsOk_n, tgsOk_c, setOs, wipe, back, slcO_t, slcO_vl, slcO_l, itO_l, itO_vl, itO_t, frA, d_v, d_l, d_d, at_z, at_s, set_z, set_s, ixI_0, ixI_1, ixI_2, ixI_3, ixI_4, eqP_i, eqP_s, nc, List.length_cons, List.length_nil, List.map_cons, List.map_nil, List.cons_append, List.nil_append, List.append_nil, rep_s, rep_z, all_rep, Nat.reduceAdd, Nat.reduceSub, Nat.reduceEqDiff, List.getElem?_cons_zero, List.getElem?_cons_succ, ↓Option.bind_eq_bind, Option.bind_some, Option.bind_none, Option.map_some, Option.map_none, Option.pure_def, if_true, if_false, ite_true, ite_false, reduceIte, Bool.not_true, Bool.not_false, Bool.false_eq_true, List.any_cons, List.any_nil, List.contains_cons, List.contains_nil, Bool.or_false, Bool.false_or, Bool.or_self, Bool.and_true, Bool.true_and, Bool.and_self, Bool.and_false, Bool.false_and, Bool.or_true, Bool.true_or, List.nodup_nil, List.nodup_cons, List.mem_cons, List.not_mem_nil, or_false, or_self, not_false_eq_true, and_true, and_self, Nat.reduceEqDiff, Nat.succ_ne_zero, Nat.zero_ne_one, Nat.one_ne_zero, beq_self_eq_true, Nat.reduceBEq, Int.reduceMul, Int.reduceNeg, decide_true, decide_false, Int.reduceLT, Int.reduceLE, Int.reduceEq, Int.ofNat_eq_natCast, *])
section
variable {lw : List Fd} (n : Nat)
/-! ### the custom of a day -/
def customAt (cs : List CusT) (day : Int) : Str := match ((cs.filter fun c => decide (c.1 ≤ day)).getLast?) with
  | some c => c.2
  | none => "even"
theorem lc_filter {α : Type} {f : D → En → Option (Option D × En)} (S : En → Prop) {enc : α → D} {p : α → Bool} {G : α → D} {xs : List α} (h : ∀ x ∈ xs, ∀ s, S s → ∃ s', f (enc x) s = some (if p x then some (G x) else none, s') ∧ S s') (s : En) (hs : S s) : ∃ s', lcLoop f (xs.map enc) s = some ((xs.filter p).map G, s') ∧ S s' := by
  induction xs generalizing s with
  | nil => exact ⟨s, rfl, hs⟩
  | cons x xs ih =>
    obtain ⟨s1, e1, h1⟩ := h x List.mem_cons_self s hs
    obtain ⟨s2, e2, h2⟩ := ih (fun y hy => h y (List.mem_cons_of_mem _ hy)) s1 h1
    refine ⟨s2, ?_, h2⟩
    rw [List.map_cons, lcLoop, e1]
    show (lcLoop f (xs.map enc) s1).bind _ = _
    rw [e2, List.filter_cons]
    cases p x <;> rfl
/-- the last of a list by its index -/
theorem last_ix {xs : List D} {x : D} (h : xs.getLast? = some x) : ixI xs.length (-1) = some (xs.length - 1) := by
  have hn : xs ≠ [] := by
    intro e
    subst e
    cases h
  have hl : 0 < xs.length := List.length_pos_iff.mpr hn
  unfold ixI
  rw [if_neg (by decide), if_pos (by omega)]
  congr 1
  omega
theorem last_get {xs : List D} {x : D} (h : xs.getLast? = some x) : xs[xs.length - 1]? = some x := by
  rw [← List.getLast?_eq_getElem?]
  exact h
theorem eqP_nil {xs : List D} {k : Nat} (h : ∀ x ∈ xs, Pl k x) (hk : k < 64) : eqP (.list xs) (.list []) = some xs.isEmpty := by
  rw [eqP_of (.list h) (.list (k := 0) .nil) (by omega) (by decide)]
  cases xs <;> rfl
theorem custom_at_r (R : RulesT) (day : Int) : callD (FN lw) (n + 1) 30 [.v R.enc, .v (.int day)] = some (.v (.str (customAt R.cus day)), [.v R.enc, .v (.int day)]) := by
  rw [callS (fd := Lib.b_custom_at) rfl]
  unfold Lib.b_custom_at RulesT.enc
  generalize hc : PyData.tuple (R.cur.map encC) = r0
  generalize hr : PyData.tuple (R.rat.map encR) = r1
  generalize ht : PyData.tuple (R.tax.map encT) = r2
  one_item
  obtain ⟨s1, e1, u1, u2, rfl⟩ := lc_filter (f := lcF (callD (FN lw) n) [3, 4] (.nm 4) (.tp [(.nm 3), (.nm 4)]) [(.cmp .le (.nm 3) (.nm 1))]) (fun s => ∃ u v, s = [some (.v (.tuple [r0, r1, r2, .tuple (R.cus.map encU)])), some (.v (.int day)), none, u, v]) (enc := encU) (p := fun c => decide (c.1 ≤ day)) (G := fun c => .str c.2) (xs := R.cus) (fun x hx s ⟨u, v, e⟩ => by
    subst e
    refine ⟨[some (.v (.tuple [r0, r1, r2, .tuple (R.cus.map encU)])), some (.v (.int day)), none, some (.v (.int x.1)), some (.v (.str x.2))], ?_, ⟨_, _, rfl⟩⟩
    unfold lcF encU
    one_item
    by_cases hd : x.1 ≤ day
    · rw [decide_eq_true hd]
      one_item
    · rw [decide_eq_false hd]
      one_item) [some (.v (.tuple [r0, r1, r2, .tuple (R.cus.map encU)])), some (.v (.int day)), none, none, none] ⟨_, _, rfl⟩
  rw [lc_run (xs := R.cus.map encU) (r1 := [some (.v (.tuple [r0, r1, r2, .tuple (R.cus.map encU)])), some (.v (.int day)), none, none, none]) (by one_item) e1]
  one_item
  rw [eqP_nil (k := 0) (.map fun c => .str) (by decide)]
  one_item
  cases hl : ((R.cus.filter fun c => decide (c.1 ≤ day)).getLast?) with
  | none =>
    have : (R.cus.filter fun c => decide (c.1 ≤ day)) = [] := List.getLast?_eq_none_iff.mp hl
    rw [this]
    have hc2 : customAt R.cus day = "even" := by
      unfold customAt
      rw [hl]
    rw [hc2]
    rfl
  | some c =>
    have hc2 : customAt R.cus day = c.2 := by
      unfold customAt
      rw [hl]
    have hne : ((R.cus.filter fun c => decide (c.1 ≤ day)).map fun c => PyData.str c.2).isEmpty = false := by
      cases hq : (R.cus.filter fun c => decide (c.1 ≤ day)) with
      | nil =>
        rw [hq] at hl
        cases hl
      | cons _ _ => rfl
    rw [hne, hc2]
    one_item
    have hx : (((R.cus.filter fun c => decide (c.1 ≤ day)).map fun c => PyData.str c.2)).getLast? = some (.str c.2) := by
      rw [List.getLast?_map, hl]
      rfl
    rw [last_ix hx]
    one_item
    rw [last_get hx]
    one_item
/-! ### rates -/
def minS (a b : Str) : Str := if b.cps.toList < a.cps.toList then b else a
def maxS (a b : Str) : Str := if a.cps.toList < b.cps.toList then b else a
def rows (R : RulesT) (day : Int) (a b : Str) : List RatT := R.rat.filter fun r => (decide (r.1 = minS a b) && decide (r.2.1 = maxS a b)) && decide (r.2.2.1 ≤ day)
def rateAt (R : RulesT) (day : Int) (a b : Str) : Option (Int × Int) := if a = b then some (1, 1) else match (rows R day a b).getLast? with
  | none => none
  | some r => some (if a = r.1 then red r.2.2.2.1 r.2.2.2.2 else red r.2.2.2.2 r.2.2.2.1)
def encO : Option (Int × Int) → D
  | none => .none
  | some p => fr p
theorem min2_s {x y : Str} : min2O (.v (.str x)) (.v (.str y)) = some (.v (.str (minS x y))) := rfl
theorem max2_s {x y : Str} : max2O (.v (.str x)) (.v (.str y)) = some (.v (.str (maxS x y))) := rfl
theorem cut2R {a b : Str} {d t m : Int} : cutL [PyData.str a, .str b, .int d, .int t, .int m] none (some 2) = [.str a, .str b] := rfl
theorem eqP_ss {a b c d : Str} : eqP (.tuple [.str a, .str b]) (.tuple [.str c, .str d]) = some (decide (a = c) && decide (b = d)) := by
  rw [eqP_of (k := 1) (l := 1) (.tup (.cons .str (.cons .str .nil))) (.tup (.cons .str (.cons .str .nil))) (by decide) (by decide)]
  show some ((a == c) && ((b == d) && true)) = _
  rw [Bool.and_true]
  rfl
theorem encR_pl (c : RatT) : Pl 1 (encR c) := .tup (.cons .str (.cons .str (.cons .int (.cons .int (.cons .int .nil)))))
theorem rate_at_r (R : RulesT) (hR : RulesOk R) (day : Int) (a b : Str) : callD (FN lw) (n + 3) 31 [.v R.enc, .v (.int day), .v (.str a), .v (.str b)] = some (.v (encO (rateAt R day a b)), [.v R.enc, .v (.int day), .v (.str a), .v (.str b)]) := by
  rw [callS (fd := Lib.b_rate_at) rfl]
  unfold Lib.b_rate_at RulesT.enc
  generalize hc : PyData.tuple (R.cur.map encC) = r0
  generalize ht : PyData.tuple (R.tax.map encT) = r2
  generalize hu : PyData.tuple (R.cus.map encU) = r3
  one_item
  by_cases hab : a = b
  · rw [decide_eq_true hab]
    one_item
    unfold rateAt
    rw [if_pos hab]
    rfl
  · rw [decide_eq_false hab]
    one_item
    rw [min2_s]
    one_item
    rw [max2_s]
    one_item
    obtain ⟨s1, e1, u1, rfl⟩ := lc_filter (f := lcF (callD (FN lw) (n + 2)) [11] (.nm 11) (.nm 11) [(.and (.cmp .eq (.slc (.nm 11) none (some (.cst (.int 2)))) (.nm 4)) (.cmp .le (.idx (.nm 11) (.cst (.int 2))) (.nm 1)))])
      (fun s => ∃ u, s = [some (.v (.tuple [r0, .tuple (R.rat.map encR), r2, r3])), some (.v (.int day)), some (.v (.str a)), some (.v (.str b)), some (.v (.tuple [.str (minS a b), .str (maxS a b)])), none, none, none, none, none, none, u]) (enc := encR)
      (p := fun r => (decide (r.1 = minS a b) && decide (r.2.1 = maxS a b)) && decide (r.2.2.1 ≤ day)) (G := encR) (xs := R.rat) (fun x hx s ⟨u, e⟩ => by
      subst e
      refine ⟨[some (.v (.tuple [r0, .tuple (R.rat.map encR), r2, r3])), some (.v (.int day)), some (.v (.str a)), some (.v (.str b)), some (.v (.tuple [.str (minS a b), .str (maxS a b)])), none, none, none, none, none, none, some (.v (encR x))], ?_, ⟨_, rfl⟩⟩
      unfold lcF encR
      one_item
      rw [cut2R, eqP_ss]
      one_item
      cases decide (x.1 = minS a b) && decide (x.2.1 = maxS a b) with
      | false => one_item
      | true =>
        one_item
        cases decide (x.2.2.1 ≤ day) <;> one_item) [some (.v (.tuple [r0, .tuple (R.rat.map encR), r2, r3])), some (.v (.int day)), some (.v (.str a)), some (.v (.str b)), some (.v (.tuple [.str (minS a b), .str (maxS a b)])), none, none, none, none, none, none, none] ⟨_, rfl⟩
    rw [lc_run (xs := R.rat.map encR) (r1 := [some (.v (.tuple [r0, .tuple (R.rat.map encR), r2, r3])), some (.v (.int day)), some (.v (.str a)), some (.v (.str b)), some (.v (.tuple [.str (minS a b), .str (maxS a b)])), none, none, none, none, none, none, none]) (by one_item) e1]
    one_item
    rw [show (R.rat.filter fun r => (decide (r.1 = minS a b) && decide (r.2.1 = maxS a b)) && decide (r.2.2.1 ≤ day)) = rows R day a b from rfl]
    rw [eqP_nil (k := 1) (.map encR_pl) (by decide)]
    one_item
    unfold rateAt
    rw [if_neg hab]
    cases hl : (rows R day a b).getLast? with
    | none =>
      rw [List.getLast?_eq_none_iff.mp hl]
      rfl
    | some c =>
      have hne : ((rows R day a b).map encR).isEmpty = false := by
        cases hq : rows R day a b with
        | nil =>
          rw [hq] at hl
          cases hl
        | cons _ _ => rfl
      rw [hne]
      one_item
      have hx : ((rows R day a b).map encR).getLast? = some (encR c) := by
        rw [List.getLast?_map, hl]
        rfl
      rw [last_ix hx]
      one_item
      rw [last_get hx]
      have hm : c ∈ R.rat := (List.mem_filter.mp (List.mem_of_getLast? hl)).1
      have ok := hR.rat c hm
      unfold encR
      one_item
      by_cases hac : a = c.1
      · rw [decide_eq_true hac, if_pos hac]
        one_item
        rw [reduced_i _ _ _ (by have := ok.bot; omega) ((Bd.of64 (by have := ok.bot; omega) (by have := ok.bot; omega)).mono (by decide))]
        one_item
        rfl
      · rw [decide_eq_false hac, if_neg hac]
        one_item
        rw [reduced_i _ _ _ (by have := ok.top; omega) ((Bd.of64 (by have := ok.top; omega) (by have := ok.top; omega)).mono (by decide))]
        one_item
        rfl
/-! ### roads -/
/-- neighbours -/
def pairs : List Str → List (Str × Str)
  | a :: b :: r => (a, b) :: pairs (b :: r)
  | _ => []
theorem zip_pairs : ∀ road : List Str, zipD (road.map .str) ((road.map .str).drop 1) = (pairs road).map fun p => .tuple [.str p.1, .str p.2]
  | [] => rfl
  | [_] => rfl
  | a :: b :: r => by
    have := zip_pairs (b :: r)
    simp only [List.map_cons, List.drop_succ_cons, List.drop_zero, zipD, pairs] at this ⊢
    rw [this]
structure RoadOk (R : RulesT) (day : Int) (road : List Str) : Prop where
  len : 2 ≤ road.length ∧ road.length ≤ 6
  mem : ∀ c ∈ road, c ∈ codes R
  rat : ∀ p ∈ pairs road, p.1 ≠ p.2 ∧ (rateAt R day p.1 p.2).isSome
def encP (p : Str × Str) : D := .tuple [.str p.1, .str p.2]
theorem need_road_r (R : RulesT) (hR : RulesOk R) (day : Int) (road : List Str) (h : RoadOk R day road) : callD (FN lw) (n + 5) 33 [.v R.enc, .v (.int day), .v (.tuple (road.map .str))] = some (.v .none, [.v R.enc, .v (.int day), .v (.tuple (road.map .str))]) := by
  have e : callD (FN lw) (n + 4) 32 [.v R.enc, .v (.int day), .v (.tuple (road.map .str))] = some (.v (.bool true), [.v R.enc, .v (.int day), .v (.tuple (road.map .str))]) := by
    have q1 : decide ((2 : Int) ≤ (road.map PyData.str).length) = true := decide_eq_true (by rw [List.length_map]; have := h.len; omega)
    have q2 : decide (((road.map PyData.str).length : Int) ≤ 6) = true := decide_eq_true (by rw [List.length_map]; have := h.len; omega)
    have rt := fun a b => rate_at_r (lw := lw) n R hR day a b
    rw [callS (fd := Lib.b_is_road) rfl]
    unfold Lib.b_is_road
    unfold RulesT.enc at rt ⊢
    generalize hr : PyData.tuple (R.rat.map encR) = r1 at rt ⊢
    generalize ht : PyData.tuple (R.tax.map encT) = r2 at rt ⊢
    generalize hu : PyData.tuple (R.cus.map encU) = r3 at rt ⊢
    one_item
    rw [q1]
    one_item
    rw [q2]
    one_item
    obtain ⟨s1, e1, u1, rfl⟩ := lc_map (f := lcF (callD (FN lw) (n + 3)) [4] (.idx (.nm 4) (.cst (.int 0))) (.nm 4) []) (fun s => ∃ u, s = [some (.v (.tuple [.tuple (R.cur.map encC), r1, r2, r3])), some (.v (.int day)), some (.v (.tuple (road.map .str))), none, u, none, none]) (F := hd0) (xs := R.cur.map encC) (fun x hx s ⟨u, e⟩ => by
      subst e
      obtain ⟨c, hc, rfl⟩ := List.mem_map.mp hx
      refine ⟨[some (.v (.tuple [.tuple (R.cur.map encC), r1, r2, r3])), some (.v (.int day)), some (.v (.tuple (road.map .str))), none, some (.v (encC c)), none, none], ?_, ⟨_, rfl⟩⟩
      unfold lcF encC hd0
      one_item) [some (.v (.tuple [.tuple (R.cur.map encC), r1, r2, r3])), some (.v (.int day)), some (.v (.tuple (road.map .str))), none, none, none, none] ⟨_, rfl⟩
    rw [lc_run (xs := R.cur.map encC) (r1 := [some (.v (.tuple [.tuple (R.cur.map encC), r1, r2, r3])), some (.v (.int day)), some (.v (.tuple (road.map .str))), none, none, none, none]) (by one_item) e1]
    one_item
    rw [map_map_D (G := fun c => .str c.1) fun c => rfl]
    have hcs : (R.cur.map fun c => PyData.str c.1) = (codes R).map .str := by
      unfold codes
      rw [List.map_map]
      rfl
    rw [hcs]
    obtain ⟨s1, e1, u1, rfl⟩ := lc_all (f := lcF (callD (FN lw) (n + 3)) [5] (.and (.isi .str (.nm 5)) (.cmp .isin (.nm 5) (.nm 3))) (.nm 5) []) (fun s => ∃ u, s = [some (.v (.tuple [.tuple (R.cur.map encC), r1, r2, r3])), some (.v (.int day)), some (.v (.tuple (road.map .str))), some (.lst ((codes R).map .str)), none, u, none]) (xs := road.map .str) (fun x hx s ⟨u, e⟩ => by
      subst e
      obtain ⟨c, hc, rfl⟩ := List.mem_map.mp hx
      have hm := h.mem c hc
      refine ⟨[some (.v (.tuple [.tuple (R.cur.map encC), r1, r2, r3])), some (.v (.int day)), some (.v (.tuple (road.map .str))), some (.lst ((codes R).map .str)), none, some (.v (.str c)), none], ?_, ⟨_, rfl⟩⟩
      unfold lcF
      one_item
      rw [show inO (.v (.str c)) (.lst ((codes R).map .str)) = some true from by
        rw [← decide_eq_true hm]
        exact memD_s c _]
      one_item) [some (.v (.tuple [.tuple (R.cur.map encC), r1, r2, r3])), some (.v (.int day)), some (.v (.tuple (road.map .str))), some (.lst ((codes R).map .str)), none, none, none] ⟨_, rfl⟩
    rw [lc_run (xs := road.map .str) (r1 := [some (.v (.tuple [.tuple (R.cur.map encC), r1, r2, r3])), some (.v (.int day)), some (.v (.tuple (road.map .str))), some (.lst ((codes R).map .str)), none, none, none]) (by one_item) e1]
    one_item
    obtain ⟨s1, e1, u1, u2, rfl⟩ := lc_all (f := lcF (callD (FN lw) (n + 3)) [5, 6] (.and (.cmp .ne (.nm 5) (.nm 6)) (.cmp .isn (.cal 31 [(.nm 0), (.nm 1), (.nm 5), (.nm 6)] [] []) (.cst .none))) (.tp [(.nm 5), (.nm 6)]) []) (fun s => ∃ u v, s = [some (.v (.tuple [.tuple (R.cur.map encC), r1, r2, r3])), some (.v (.int day)), some (.v (.tuple (road.map .str))), some (.lst ((codes R).map .str)), none, u, v]) (xs := (pairs road).map encP) (fun x hx s ⟨u, v, e⟩ => by
      subst e
      obtain ⟨c, hc, rfl⟩ := List.mem_map.mp hx
      obtain ⟨p1, p2⟩ := h.rat c hc
      refine ⟨[some (.v (.tuple [.tuple (R.cur.map encC), r1, r2, r3])), some (.v (.int day)), some (.v (.tuple (road.map .str))), some (.lst ((codes R).map .str)), none, some (.v (.str c.1)), some (.v (.str c.2))], ?_, ⟨_, _, rfl⟩⟩
      unfold lcF encP
      one_item
      rw [decide_eq_false p1]
      one_item
      rw [rt]
      obtain ⟨q, hq⟩ := Option.isSome_iff_exists.mp p2
      rw [hq]
      unfold encO fr
      one_item) [some (.v (.tuple [.tuple (R.cur.map encC), r1, r2, r3])), some (.v (.int day)), some (.v (.tuple (road.map .str))), some (.lst ((codes R).map .str)), none, none, none] ⟨_, _, rfl⟩
    rw [lc_run (xs := (pairs road).map encP) (r1 := [some (.v (.tuple [.tuple (R.cur.map encC), r1, r2, r3])), some (.v (.int day)), some (.v (.tuple (road.map .str))), some (.lst ((codes R).map .str)), none, none, none]) (by
      one_item
      rw [cut_tail]
      unfold zipO
      one_item
      rw [zip_pairs]
      rfl) e1]
    one_item
  rw [callS (fd := Lib.b_need_road) rfl]
  unfold Lib.b_need_road
  one_item
  rw [e]
  one_item
end
end Mp
end

/-! ## S5 -/
section
set_option linter.all false
set_option maxRecDepth 100000
namespace Mp
open PySem
local macro_rules | `(tactic| one_item) => `(tactic| simp (config := { decide := false }) only [↓bnd_p, bnd_s, bnd_n, runF_e, endF_nx, endF_rt, exs_c, exs_n, seqF_nx, seqF_rt, seqF_bk, seqF_ct, ex.eq_1, ex.eq_2, ex.eq_3, ex.eq_4, ex.eq_5, ex.eq_6, ex.eq_7, ex.eq_8, ex.eq_9, ex.eq_10, ex.eq_11, ex.eq_12, ex.eq_15, ex.eq_16, ex.eq_17, ex.eq_18, ev.eq_1, ev.eq_2, ev.eq_3, ev.eq_4, ev.eq_5, ev.eq_6, ev.eq_7, ev.eq_8, ev.eq_9, ev.eq_10, ev.eq_11, ev.eq_12, ev.eq_13, ev.eq_14, ev.eq_15, ev.eq_16, ev.eq_17, ev.eq_18, ev.eq_19, ev.eq_20, ev.eq_23, ev.eq_24, ev.eq_25, ev.eq_26, ev.eq_27, evs, evas, evac, evc, evo, evod, evit.eq_1, evit.eq_3, evit.eq_4, evit.eq_5, evit.eq_6, evit.eq_7, evOs, arB_cst, arC_cst, arB_bin, arC_bin, arB_neg, arC_neg, arB_not, arC_not, arB_cmp, arC_cmp, arB_chn, arC_chn, arB_and, arC_and, arB_or, arC_or, arB_ife, arC_ife, arB_tup, arC_tup, arB_lst, arC_lst, arB_dct, arC_dct, arB_idx, arC_idx, arB_slc, arC_slc, arB_stp, arC_stp, arB_cal, arC_cal, arB_blt, arC_blt, arB_mth, arC_mth, arB_isi, arC_isi, arB_lc, arC_lc, arB_dc, arC_dc, arB_pop, arC_pop, arB_app, arC_app, arB_ext, arC_ext, arB_upd, arC_upd, arB_fst, arC_fst, arB_n, arC_n, arN_s, rdA_v, rdA_s, rdAs, hand, ownSl, putB, nodO, isLst, selK, binO, cmpO, ownIx, outs, pairUp_n, pairUp_s, mrg_n, isOwn_v, isOwn_l, isOwn_d, isOO_v, isOO_l, isOO_d, isO_n, isO_b, isNn_n, isNn_i, isNn_b, isNn_s, isNn_t, isNn_l, notB, leO_i, geO_i, ltO_i, gtO_i, eqO, intsO_i, addO_i, addO_t, addO_l, mulO_i, bolO_b, intO_i, isiD, idxO_t, idxO_l, idxO_vl, dctO_d, dctO_v, seqD_l, seqD_t, seqD_vl, lstO_l, lstO_vl, tupO_t, blO, one_e, two_e, absO_i, intB_i, intB_b, onInts_l, onBools_l, min2_i, max2_i, len_t, len_l, len_vl, len_s, setO_l, ixSet_e, List.set_cons_zero, List.set_cons_succ, asgT_n, asgT_t, asgTs_n, asgTs_c, tgOk_n, tgOk_t, tgsOk_n, tgsOk_c, setOs, wipe, back, slcO_t, slcO_vl, slcO_l, itO_l, itO_vl, itO_t, frA, d_v, d_l, d_d, at_z, at_s, set_z, set_s, ixI_0, ixI_1, ixI_2, ixI_3, ixI_4, eqP_i, eqP_s, nc, List.length_cons, List.length_nil, List.map_cons, List.map_nil, List.cons_append, List.nil_append, List.append_nil, rep_s, rep_z, all_rep, Nat.reduceAdd, Nat.reduceSub, Nat.reduceEqDiff, List.getElem?_cons_zero, List.getElem?_cons_succ, ↓Option.bind_eq_bind, Option.bind_some, Option.bind_none, Option.map_some, Option.map_none, Option.pure_def, if_true, if_false, ite_true, ite_false, reduceIte, Bool.not_true, Bool.not_false, Bool.false_eq_true, List.any_cons, List.any_nil, List.contains_cons, List.contains_nil, Bool.or_false, Bool.false_or, Bool.or_self, Bool.and_true, Bool.true_and, Bool.and_self, Bool.and_false, Bool.false_and, Bool.or_true, Bool.true_or, List.nodup_nil, List.nodup_cons, List.mem_cons, List.not_mem_nil, or_false, or_self, not_false_eq_true, and_true, and_self, Nat.reduceEqDiff, Nat.succ_ne_zero, Nat.zero_ne_one, Nat.one_ne_zero, beq_self_eq_true, Nat.reduceBEq, Int.reduceMul, Int.reduceNeg, decide_true, decide_false, Int.reduceLT, Int.reduceLE, Int.reduceEq, Int.ofNat_eq_natCast])
local macro_rules | `(tactic| one_place) => `(tactic| simp (config := { decide := false }) only [↓bnd_p, bnd_s, bnd_n, runF_e, endF_nx, endF_rt, exs_c, exs_n, seqF_nx, seqF_rt, seqF_bk, seqF_ct, ex.eq_1, ex.eq_2, ex.eq_3, ex.eq_4, ex.eq_5, ex.eq_6, ex.eq_7, ex.eq_8, ex.eq_9, ex.eq_10, ex.eq_11, ex.eq_12, ex.eq_15, ex.eq_16, ex.eq_17, ex.eq_18, ev.eq_1, ev.eq_2, ev.eq_3, ev.eq_4, ev.eq_5, ev.eq_6, ev.eq_7, ev.eq_8, ev.eq_9, ev.eq_10, ev.eq_11, ev.eq_12, ev.eq_13, ev.eq_14, ev.eq_15, ev.eq_16, ev.eq_17, ev.eq_18, ev.eq_19, ev.eq_20, ev.eq_23, ev.eq_24, ev.eq_25, ev.eq_26, ev.eq_27, evs, evas, evac, evc, evo, evod, evit.eq_1, evit.eq_3, evit.eq_4, evit.eq_5, evit.eq_6, evit.eq_7, evOs, arB_cst, arC_cst, arB_bin, arC_bin, arB_neg, arC_neg, arB_not, arC_not, arB_cmp, arC_cmp, arB_chn, arC_chn, arB_and, arC_and, arB_or, arC_or, arB_ife, arC_ife, arB_tup, arC_tup, arB_lst, arC_lst, arB_dct, arC_dct, arB_idx, arC_idx, arB_slc, arC_slc, arB_stp, arC_stp, arB_cal, arC_cal, arB_blt, arC_blt, arB_mth, arC_mth, arB_isi, arC_isi, arB_lc, arC_lc, arB_dc, arC_dc, arB_pop, arC_pop, arB_app, arC_app, arB_ext, arC_ext, arB_upd, arC_upd, arB_fst, arC_fst, arB_n, arC_n, arN_s, rdA_v, rdA_s, rdAs, hand, ownSl, putB, nodO, isLst, selK, binO, cmpO, ownIx, outs, pairUp_n, pairUp_s, mrg_n, isOwn_v, isOwn_l, isOwn_d, isOO_v, isOO_l, isOO_d, isO_n, isO_b, isNn_n, isNn_i, isNn_b, isNn_s, isNn_t, isNn_l, notB, leO_i, geO_i, ltO_i, gtO_i, eqO, intsO_i, addO_i, addO_t, addO_l, mulO_i, bolO_b, intO_i, isiD, idxO_t, idxO_l, idxO_vl, dctO_d, dctO_v, seqD_l, seqD_t, seqD_vl, lstO_l, lstO_vl, tupO_t, blO, one_e, two_e, absO_i, intB_i, intB_b, onInts_l, onBools_l, min2_i, max2_i, len_t, len_l, len_vl, len_s, setO_l, ixSet_e, List.set_cons_zero, List.set_cons_succ, asgT_n, asgT_t, asgTs_n, asgTs_c, tgOk_n, tgOk_t, tgsOk_n, tgsOk_c, setOs, wipe, back, slcO_t, slcO_vl, slcO_l, itO_l, itO_vl, itO_t, frA, d_v, d_l, d_d, at_z, at_s, set_z, set_s, ixI_0, ixI_1, ixI_2, ixI_3, ixI_4, eqP_i, eqP_s, nc, List.length_cons, List.length_nil, List.map_cons, List.map_nil, List.cons_append, List.nil_append, List.append_nil, rep_s, rep_z, all_rep, Nat.reduceAdd, Nat.reduceSub, Nat.reduceEqDiff, List.getElem?_cons_zero, List.getElem?_cons_succ, ↓Option.bind_eq_bind, Option.bind_some, Option.bind_none, Option.map_some, Option.map_none, Option.pure_def, if_true, if_false, ite_true, ite_false, reduceIte, Bool.not_true, Bool.not_false, Bool.false_eq_true, List.any_cons, List.any_nil, List.contains_cons, List.contains_nil, Bool.or_false, Bool.false_or, Bool.or_self, Bool.and_true, Bool.true_and, Bool.and_self, Bool.and_false, Bool.false_and, Bool.or_true, Bool.true_or, List.nodup_nil, List.nodup_cons, List.mem_cons, List.not_mem_nil, or_false, or_self, not_false_eq_true, and_true, and_self, Nat.reduceEqDiff, Nat.succ_ne_zero, Nat.zero_ne_one, Nat.one_ne_zero, beq_self_eq_true, Nat.reduceBEq, Int.reduceMul, Int.reduceNeg, decide_true, decide_false, Int.reduceLT, Int.reduceLE, Int.reduceEq, Int.ofNat_eq_natCast, *])
section
variable {lw : List Fd} (n : Nat)
/-! ### along a road -/
structure RtOk (p : Int × Int) : Prop where
  p1 : 0 < p.1
  p2 : 0 < p.2
  b1 : Bd 17 p.1
  b2 : Bd 17 p.2
theorem RtOk.of {t b : Int} (h1 : 1 ≤ t ∧ t ≤ 100000) (h2 : 1 ≤ b ∧ b ≤ 100000) : RtOk (red t b) := by
  have t17 : Bd 17 t := .of (by have := h1; simp; omega) (by have := h1; simp; omega)
  have b17 : Bd 17 b := .of (by have := h2; simp; omega) (by have := h2; simp; omega)
  obtain ⟨r1, r2⟩ := red_bd (t := t) (b := b) (by omega) t17 b17
  refine ⟨?_, red_pos (by omega), r1, r2⟩
  have e := (red_eq (t := t) (b := b)).1
  have g := gI_pos (t := t) (b := b) (by omega)
  by_cases z : 0 < (red t b).1
  · exact z
  · exfalso
    have : (red t b).1 * gI t b ≤ 0 := Int.mul_nonpos_of_nonpos_of_nonneg (by omega) (by omega)
    omega
theorem rateAt_ok {R : RulesT} (hR : RulesOk R) {day : Int} {a b : Str} {p : Int × Int} (h : rateAt R day a b = some p) : RtOk p := by
  unfold rateAt at h
  split at h
  · cases h
    exact ⟨by decide, by decide, by unfold Bd; decide, by unfold Bd; decide⟩
  · split at h
    · cases h
    · rename_i r hl
      cases h
      have hm : r ∈ R.rat := (List.mem_filter.mp (List.mem_of_getLast? hl)).1
      have ok := hR.rat r hm
      split
      · exact .of ok.top ok.bot
      · exact .of ok.bot ok.top
def ratesOf (R : RulesT) (day : Int) (road : List Str) : List (Int × Int) := (pairs road).map fun p => (rateAt R day p.1 p.2).getD (1, 1)
theorem ratesOf_ok {R : RulesT} (hR : RulesOk R) {day : Int} {road : List Str} (h : RoadOk R day road) : ∀ p ∈ ratesOf R day road, RtOk p := fun p hp => by
  obtain ⟨q, hq, rfl⟩ := List.mem_map.mp hp
  obtain ⟨x, hx⟩ := Option.isSome_iff_exists.mp (h.rat q hq).2
  rw [hx]
  exact rateAt_ok hR hx
theorem pairs_len : ∀ road : List Str, (pairs road).length = road.length - 1
  | [] => rfl
  | [_] => rfl
  | a :: b :: r => by
    show (pairs (b :: r)).length + 1 = _
    rw [pairs_len]
    simp
def tenc : D → D
  | d => d
theorem rates_of_r (R : RulesT) (hR : RulesOk R) (day : Int) (road : List Str) (h : RoadOk R day road) : callD (FN lw) (n + 4) 34 [.v R.enc, .v (.int day), .v (.tuple (road.map .str))] = some (.lst ((ratesOf R day road).map fr), [.v R.enc, .v (.int day), .v (.tuple (road.map .str))]) := by
  have rt := fun a b => rate_at_r (lw := lw) n R hR day a b
  generalize R.enc = re at rt ⊢
  rw [callS (fd := Lib.b_rates_of) rfl]
  unfold Lib.b_rates_of
  one_item
  obtain ⟨s1, e1, u1, u2, rfl⟩ := lc_filter (f := lcF (callD (FN lw) (n + 3)) [3, 4] (.cal 31 [(.nm 0), (.nm 1), (.nm 3), (.nm 4)] [] []) (.tp [(.nm 3), (.nm 4)]) []) (fun s => ∃ u v, s = [some (.v re), some (.v (.int day)), some (.v (.tuple (road.map .str))), u, v]) (enc := encP) (p := fun _ => true) (G := fun p => fr ((rateAt R day p.1 p.2).getD (1, 1))) (xs := pairs road) (fun c hc s ⟨u, v, e⟩ => by
    subst e
    refine ⟨[some (.v re), some (.v (.int day)), some (.v (.tuple (road.map .str))), some (.v (.str c.1)), some (.v (.str c.2))], ?_, ⟨_, _, rfl⟩⟩
    unfold lcF encP
    one_item
    rw [rt]
    obtain ⟨q, hq⟩ := Option.isSome_iff_exists.mp (h.rat c hc).2
    rw [hq]
    one_item
    rfl) [some (.v re), some (.v (.int day)), some (.v (.tuple (road.map .str))), none, none] ⟨_, _, rfl⟩
  rw [lc_run (xs := (pairs road).map encP) (r1 := [some (.v re), some (.v (.int day)), some (.v (.tuple (road.map .str))), none, none]) (by
    one_item
    rw [cut_tail]
    unfold zipO
    one_item
    rw [zip_pairs]
    rfl) e1]
  one_item
  unfold ratesOf
  rw [List.map_map]
  rw [List.filter_eq_self.mpr fun _ _ => rfl]
  rfl
/-- one step: the exact worth, what is told -/
def exI (x : Int) (p : Int × Int) : Int × Int := red (x * p.1) (1 * p.2)
def stpI (c : Str) (x : Int) (p : Int × Int) : Int := toldI c (exI x p).1 (exI x p).2 1
def row (c : Str) (x : Int) (q : Str × Str) (p : Int × Int) : D := .tuple [.str q.1, .str q.2, .int x, fr (exI x p), .int (stpI c x p), fr (restI c (exI x p).1 (exI x p).2 1)]
def paper (c : Str) : Int → List (Str × Str) → List (Int × Int) → List D
  | x, q :: qs, p :: ps => row c x q p :: paper c (stpI c x p) qs ps
  | _, _, _ => []
theorem exI_ok {x : Int} {p : Int × Int} (hp : RtOk p) {k : Nat} (h : Bd k x) : 0 < (exI x p).2 ∧ Bd (k + 17) (exI x p).1 ∧ Bd 18 (exI x p).2 := by
  have h1 : 0 < 1 * p.2 := by have := hp.p2; omega
  have one : Bd 1 (1 : Int) := by unfold Bd; decide
  obtain ⟨r1, r2⟩ := red_bd h1 (h.mul hp.b1) ((one.mul hp.b2).mono (by decide : 1 + 17 ≤ 18))
  exact ⟨red_pos h1, r1, r2⟩
theorem stpI_bd {c : Str} {x : Int} {p : Int × Int} (hp : RtOk p) {k : Nat} (h : Bd k x) : Bd (k + 17) (stpI c x p) := by
  obtain ⟨h1, h2, h3⟩ := exI_ok hp h
  unfold stpI toldI
  rw [Int.mul_one, Int.mul_one]
  exact whole_bd h1 h2
abbrev paperB : List CS := [(.asg (.nm 8) (.cal 11 [(.tup [(.nm 2), (.cst (.int 1))]), (.nm 7)] [] [])), (.asg (.tp [(.nm 9), (.nm 10)]) (.cal 16 [(.idx (.nm 8) (.cst (.int 0))), (.idx (.nm 8) (.cst (.int 1))), (.nm 0)] [] [(.inr (.int 1))])), (.exp (.app 4 (.tup [(.nm 5), (.nm 6), (.nm 2), (.nm 8), (.nm 9), (.nm 10)]))), (.asg (.nm 2) (.nm 9))]
theorem paper_loop (c : Str) (d1 d3 : D) : ∀ (qs : List (Str × Str)) (ps : List (Int × Int)) (x : Int) (fd : List D) (k : Nat) (u5 u6 u7 u8 u9 u10 : Option O), qs.length = ps.length → (∀ p ∈ ps, RtOk p) → Bd k x → k + 17 * qs.length ≤ 2000 → fd.length + qs.length ≤ 1000 →
    ∃ y v5 v6 v7 v8 v9 v10, forLoop (forF (callD (FN lw) (n + 4)) [] (.tp [(.tp [(.nm 5), (.nm 6)]), (.nm 7)]) paperB) (zipD (qs.map encP) (ps.map fr)) [some (.v (.str c)), some (.v d1), some (.v (.int x)), some (.v d3), some (.lst fd), u5, u6, u7, u8, u9, u10] =
      some (.nx, [some (.v (.str c)), some (.v d1), some (.v (.int y)), some (.v d3), some (.lst (fd ++ paper c x qs ps)), v5, v6, v7, v8, v9, v10])
  | [], ps, x, fd, k, u5, u6, u7, u8, u9, u10, hl, _, _, _, _ => ⟨x, u5, u6, u7, u8, u9, u10, by
    have : paper c x [] ps = [] := by
      unfold paper
      rfl
    rw [this, List.append_nil]
    rfl⟩
  | q :: qs, [], _, _, _, _, _, _, _, _, _, hl, _, _, _, _ => by simp at hl
  | q :: qs, p :: ps, x, fd, k, u5, u6, u7, u8, u9, u10, hl, hp, hx, hk, hf => by
    have ok := hp p List.mem_cons_self
    obtain ⟨e1, e2, e3⟩ := exI_ok ok hx
    have one : Bd 1 (1 : Int) := by unfold Bd; decide
    rw [List.length_cons] at hk hf
    have c1 := times_f (lw := lw) (n + 1) (p := (x, 1)) (q := p) (a := max k 1) (b := 17) Int.one_pos ok.p2 (hx.mono (by omega)) (one.mono (by omega)) ok.b1 ok.b2 (by omega)
    have c2 := round_by_i (lw := lw) n c (exI x p).1 (exI x p).2 1 e1 Int.one_pos e2 e3 (one.mono (by decide)) (by decide) (by omega)
    have c3 : fd.length < SZ := Nat.lt_of_lt_of_le (by omega : fd.length < 1001) (by decide)
    have step : forF (callD (FN lw) (n + 4)) [] (.tp [(.tp [(.nm 5), (.nm 6)]), (.nm 7)]) paperB (.tuple [encP q, fr p]) [some (.v (.str c)), some (.v d1), some (.v (.int x)), some (.v d3), some (.lst fd), u5, u6, u7, u8, u9, u10] =
        some (.nx, [some (.v (.str c)), some (.v d1), some (.v (.int (stpI c x p))), some (.v d3), some (.lst (fd ++ [row c x q p])), some (.v (.str q.1)), some (.v (.str q.2)), some (.v (fr p)), some (.v (fr (exI x p))), some (.v (.int (stpI c x p))), some (.v (fr (restI c (exI x p).1 (exI x p).2 1)))]) := by
      unfold forF paperB encP
      one_item
      unfold fr at c1 ⊢
      rw [c1]
      one_item
      rw [show red (x * p.1) (1 * p.2) = exI x p from rfl, c2]
      unfold fr
      one_item
      rw [if_pos c3]
      one_item
      rfl
    obtain ⟨y, v5, v6, v7, v8, v9, v10, e⟩ := paper_loop c d1 d3 qs ps (stpI c x p) (fd ++ [row c x q p]) (k + 17) (some (.v (.str q.1))) (some (.v (.str q.2))) (some (.v (fr p))) (some (.v (fr (exI x p)))) (some (.v (.int (stpI c x p)))) (some (.v (fr (restI c (exI x p).1 (exI x p).2 1)))) (by simpa using hl) (fun r hr => hp r (List.mem_cons_of_mem _ hr)) (stpI_bd ok hx) (by omega) (by rw [List.length_append, List.length_singleton]; omega)
    refine ⟨y, v5, v6, v7, v8, v9, v10, ?_⟩
    show forLoop _ (.tuple [encP q, fr p] :: zipD (qs.map encP) (ps.map fr)) _ = _
    rw [forLoop, step]
    show forLoop _ (zipD (qs.map encP) (ps.map fr)) _ = _
    rw [e, List.append_assoc]
    rfl
theorem paper_by_r (c : Str) (ps : List (Int × Int)) (x : Int) (road : List Str) (hl : (pairs road).length = ps.length) (hp : ∀ p ∈ ps, RtOk p) {k : Nat} (hx : Bd k x) (hk : k + 17 * ps.length ≤ 2000) (hr : ps.length ≤ 100) :
    callD (FN lw) (n + 5) 35 [.v (.str c), .v (.list (ps.map fr)), .v (.int x), .v (.tuple (road.map .str))] = some (.v (.tuple (paper c x (pairs road) ps)), [.v (.str c), .v (.list (ps.map fr)), .v (.int x), .v (.tuple (road.map .str))]) := by
  obtain ⟨y, v5, v6, v7, v8, v9, v10, e⟩ := paper_loop (lw := lw) n c (.list (ps.map fr)) (.tuple (road.map .str)) (pairs road) ps x [] k none none none none none none hl hp hx (by omega) (by simp; omega)
  rw [callS (fd := Lib.b_paper_by) rfl]
  unfold Lib.b_paper_by
  one_item
  rw [for_run (r1 := [some (.v (.str c)), some (.v (.list (ps.map fr))), some (.v (.int x)), some (.v (.tuple (road.map .str))), some (.lst []), none, none, none, none, none, none]) (by
    one_item
    rw [cut_tail, zip_pairs]
    rfl) (by one_item) e]
  one_item
/-! ### worth -/
def worthL (q : Int × Int) (ps : List (Int × Int)) : Int × Int := ps.foldl (fun q p => red (q.1 * p.1) (q.2 * p.2)) q
theorem worth_loop (d0 d1 : D) : ∀ (ps : List (Int × Int)) (q : Int × Int) (k : Nat) (u : Option O), (∀ p ∈ ps, RtOk p) → 0 < q.2 → Bd k q.1 → Bd k q.2 → k + 17 * ps.length ≤ 8000 →
    ∃ v, forLoop (forF (callD (FN lw) (n + 3)) [] (.nm 3) [(.asg (.nm 2) (.cal 11 [(.nm 2), (.nm 3)] [] []))]) (ps.map fr) [some (.v d0), some (.v d1), some (.v (fr q)), u] = some (.nx, [some (.v d0), some (.v d1), some (.v (fr (worthL q ps))), v])
  | [], q, k, u, _, _, _, _, _ => ⟨u, rfl⟩
  | p :: ps, q, k, u, hp, h2, b1, b2, hk => by
    have ok := hp p List.mem_cons_self
    rw [List.length_cons] at hk
    have pos := Int.mul_pos h2 ok.p2
    obtain ⟨r1, r2⟩ := red_bd pos (b1.mul ok.b1) (b2.mul ok.b2)
    obtain ⟨v, e⟩ := worth_loop d0 d1 ps (red (q.1 * p.1) (q.2 * p.2)) (k + 17) (some (.v (fr p))) (fun r hr => hp r (List.mem_cons_of_mem _ hr)) (red_pos pos) r1 r2 (by omega)
    refine ⟨v, ?_⟩
    have c1 := times_f (lw := lw) n (p := q) (q := p) h2 ok.p2 b1 b2 ok.b1 ok.b2 (by omega)
    have step : forF (callD (FN lw) (n + 3)) [] (.nm 3) [(.asg (.nm 2) (.cal 11 [(.nm 2), (.nm 3)] [] []))] (fr p) [some (.v d0), some (.v d1), some (.v (fr q)), u] = some (.nx, [some (.v d0), some (.v d1), some (.v (fr (red (q.1 * p.1) (q.2 * p.2)))), some (.v (fr p))]) := by
      unfold forF
      one_item
      rw [c1]
      one_item
    rw [List.map_cons, forLoop, step]
    exact e
theorem worth_by_r (ps : List (Int × Int)) (x : Int) (hp : ∀ p ∈ ps, RtOk p) {k : Nat} (hx : Bd k x) (hk : k + 1 + 17 * ps.length ≤ 8000) : callD (FN lw) (n + 4) 36 [.v (.list (ps.map fr)), .v (.int x)] = some (.v (fr (worthL (x, 1) ps)), [.v (.list (ps.map fr)), .v (.int x)]) := by
  have one : Bd 1 (1 : Int) := by unfold Bd; decide
  obtain ⟨v, e⟩ := worth_loop (lw := lw) n (.list (ps.map fr)) (.int x) ps (x, 1) (k + 1) none hp Int.one_pos (hx.mono (by omega)) (one.mono (by omega)) hk
  rw [callS (fd := Lib.b_worth_by) rfl]
  unfold Lib.b_worth_by
  one_item
  rw [for_run (r1 := [some (.v (.list (ps.map fr))), some (.v (.int x)), some (.v (fr (x, 1))), none]) (by one_item; rfl) (by one_item) e]
  one_item
/-! ### along, worth -/
theorem need_case_r (R : RulesT) (hR : RulesOk R) (day : Int) (hd : 0 ≤ day ∧ day ≤ 9999) (x : Int) (road : List Str) (h : RoadOk R day road) : callD (FN lw) (n + 7) 37 [.v R.enc, .v (.int day), .v (.int x), .v (.tuple (road.map .str))] = some (.v .none, [.v R.enc, .v (.int day), .v (.int x), .v (.tuple (road.map .str))]) := by
  have c1 := need_rules_r (lw := lw) n R hR
  have c2 := need_day_i (lw := lw) (n + 3) day hd
  have c3 := need_coins_i (lw := lw) (n + 4) x
  have c4 := need_road_r (lw := lw) (n + 1) R hR day road h
  generalize R.enc = re at *
  rw [callS (fd := Lib.b_need_case) rfl]
  unfold Lib.b_need_case
  one_item
  rw [c1]
  one_item
  rw [c2]
  one_item
  rw [c3]
  one_item
  rw [c4]
  one_item
theorem along_r (R : RulesT) (hR : RulesOk R) (day : Int) (hd : 0 ≤ day ∧ day ≤ 9999) (x : Int) {k : Nat} (hx : Bd k x) (hk : k ≤ 1000) (road : List Str) (h : RoadOk R day road) :
    callD (FN lw) (n + 8) 38 [.v R.enc, .v (.int day), .v (.int x), .v (.tuple (road.map .str))] = some (.v (.tuple (paper (customAt R.cus day) x (pairs road) (ratesOf R day road))), [.v R.enc, .v (.int day), .v (.int x), .v (.tuple (road.map .str))]) := by
  have ln : (ratesOf R day road).length = (pairs road).length := List.length_map _
  have lp := pairs_len road
  have hl := h.len
  have c1 := need_case_r (lw := lw) n R hR day hd x road h
  have c2 := custom_at_r (lw := lw) (n + 6) R day
  have c3 := rates_of_r (lw := lw) (n + 3) R hR day road h
  have c4 := paper_by_r (lw := lw) (n + 2) (customAt R.cus day) (ratesOf R day road) x road ln.symm (ratesOf_ok hR h) hx (by omega) (by omega)
  generalize R.enc = re at *
  rw [callS (fd := Lib.b_along) rfl]
  unfold Lib.b_along
  one_item
  rw [c1]
  one_item
  rw [c2]
  one_item
  rw [c3]
  one_item
  rw [c4]
  one_item
theorem worth_r (R : RulesT) (hR : RulesOk R) (day : Int) (hd : 0 ≤ day ∧ day ≤ 9999) (x : Int) {k : Nat} (hx : Bd k x) (hk : k ≤ 1000) (road : List Str) (h : RoadOk R day road) :
    callD (FN lw) (n + 8) 39 [.v R.enc, .v (.int day), .v (.int x), .v (.tuple (road.map .str))] = some (.v (fr (worthL (x, 1) (ratesOf R day road))), [.v R.enc, .v (.int day), .v (.int x), .v (.tuple (road.map .str))]) := by
  have ln : (ratesOf R day road).length = (pairs road).length := List.length_map _
  have lp := pairs_len road
  have hl := h.len
  have c1 := need_case_r (lw := lw) n R hR day hd x road h
  have c3 := rates_of_r (lw := lw) (n + 3) R hR day road h
  have c4 := worth_by_r (lw := lw) (n + 3) (ratesOf R day road) x (ratesOf_ok hR h) hx (by omega)
  generalize R.enc = re at *
  rw [callS (fd := Lib.b_worth) rfl]
  unfold Lib.b_worth
  one_item
  rw [c1]
  one_item
  rw [c3]
  one_item
  rw [c4]
  one_item
end
end Mp
end

/-! ## M1 -/
section
set_option linter.all false
set_option maxRecDepth 100000
namespace Mp
open PySem
/-! ### roundings: how they stand to one another -/
theorem div_scale {g t b : Int} (hg : 0 < g) : (g * t) / (g * b) = t / b := Int.mul_ediv_mul_of_pos _ _ hg
theorem mul_eq_iff {g x y : Int} (hg : 0 < g) : g * x = g * y ↔ x = y := ⟨fun h => Int.eq_of_mul_eq_mul_left (by omega) h, fun h => by rw [h]⟩
theorem mul_lt_iff {g x y : Int} (hg : 0 < g) : g * x < g * y ↔ x < y := ⟨fun h => Int.lt_of_mul_lt_mul_left h (by omega), fun h => Int.mul_lt_mul_of_pos_left h hg⟩
theorem near_scale {c : Str} {g t b : Int} (hg : 0 < g) : nearI c (g * t) (g * b) = nearI c t b := by
  unfold nearI
  have e : 2 * (g * t - g * t / (g * b) * (g * b)) = g * (2 * (t - t / b * b)) := by
    rw [div_scale hg, Int.mul_sub, Int.mul_sub, Int.mul_sub, Int.mul_left_comm g 2 t, Int.mul_left_comm g 2 (t / b * b), Int.mul_left_comm g (t / b) b]
  rw [e, div_scale hg]
  have h1 : (g * (2 * (t - t / b * b)) = g * b) ↔ (2 * (t - t / b * b) = b) := mul_eq_iff hg
  have h2 : (g * b < g * (2 * (t - t / b * b))) ↔ (b < 2 * (t - t / b * b)) := mul_lt_iff hg
  have h3 : g * t < 0 ↔ t < 0 := by
    have := mul_lt_iff (x := t) (y := 0) hg
    rwa [Int.mul_zero] at this
  simp only [h1, h2, h3]
theorem whole_scale {c : Str} {g t b : Int} (hg : 0 < g) : wholeI c (g * t) (g * b) = wholeI c t b := by
  unfold wholeI
  have h3 : 0 ≤ g * t ↔ 0 ≤ t := by
    have := mul_lt_iff (x := t) (y := 0) hg
    rw [Int.mul_zero] at this
    omega
  have e : (0 - g * t) / (g * b) = (0 - t) / b := by
    rw [show 0 - g * t = g * (0 - t) from by rw [Int.mul_sub, Int.mul_zero], div_scale hg]
  rw [div_scale hg, e, near_scale hg]
  simp only [h3]
theorem fl_mono {t u b : Int} (hb : 0 < b) (h : t ≤ u) : t / b ≤ u / b := Int.ediv_le_ediv hb h
theorem cl_mono {t u b : Int} (hb : 0 < b) (h : t ≤ u) : 0 - (0 - t) / b ≤ 0 - (0 - u) / b := by
  have := fl_mono (t := 0 - u) (u := 0 - t) hb (by omega)
  omega
theorem fl_le_cl {t b : Int} (hb : 0 < b) : t / b ≤ 0 - (0 - t) / b := by
  by_cases z : t - t / b * b = 0
  · rw [ceil_eq0 hb z]
    omega
  · rw [ceil_eq hb z]
    omega
theorem rem_b {t b : Int} (hb : 0 < b) : 0 ≤ t - t / b * b ∧ t - t / b * b < b := by
  have h1 := Int.emod_nonneg t (by omega : b ≠ 0)
  have h2 := Int.emod_lt_of_pos t hb
  have h3 := Int.mul_ediv_add_emod t b
  have h4 : t / b * b = b * (t / b) := Int.mul_comm _ _
  omega
theorem near_bounds {c : Str} {t b : Int} (hb : 0 < b) : t / b ≤ nearI c t b ∧ nearI c t b ≤ t / b + 1 := by
  unfold nearI
  split
  · split
    · omega
    · split <;> omega
  · split <;> omega
theorem near_mono {c : Str} {t u b : Int} (hb : 0 < b) (h : t ≤ u) : nearI c t b ≤ nearI c u b := by
  have f := fl_mono hb h
  rcases Int.lt_or_eq_of_le f with f | f
  · have := (near_bounds (c := c) (t := t) hb).2
    have := (near_bounds (c := c) (t := u) hb).1
    omega
  · by_cases e : t = u
    · rw [e]
      exact Int.le_refl _
    · have hr : t - t / b * b < u - u / b * b := by rw [f]; omega
      unfold nearI
      rw [f] at hr ⊢
      by_cases h1 : 2 * (t - u / b * b) = b
      · rw [if_pos h1, if_neg (show ¬ (2 * (u - u / b * b) = b) by omega), if_pos (show b < 2 * (u - u / b * b) by omega)]
        split
        · omega
        · split <;> omega
      · rw [if_neg h1]
        by_cases h2 : b < 2 * (t - u / b * b)
        · rw [if_pos h2, if_neg (show ¬ (2 * (u - u / b * b) = b) by omega), if_pos (show b < 2 * (u - u / b * b) by omega)]
          omega
        · rw [if_neg h2]
          split
          · split
            · omega
            · split <;> omega
          · split <;> omega
theorem whole_mono {c : Str} {t u b : Int} (hb : 0 < b) (h : t ≤ u) : wholeI c t b ≤ wholeI c u b := by
  have f := fl_mono hb h
  have k := cl_mono hb h
  have tl := fl_le_cl (t := t) hb
  have ul := fl_le_cl (t := u) hb
  unfold wholeI
  split
  · exact f
  · split
    · exact k
    · split
      · split
        · rw [if_pos (by omega)]
          exact f
        · split
          · have h1 : 0 ≤ u / b := Int.ediv_nonneg (by omega) (by omega)
            have h2 : 0 ≤ (0 - t) / b := Int.ediv_nonneg (by omega) (by omega)
            omega
          · exact k
      · split
        · split
          · rw [if_pos (by omega)]
            exact k
          · split
            · omega
            · exact f
        · exact near_mono hb h
/-- between down and up -/
theorem whole_between {c : Str} {t b : Int} (hb : 0 < b) : t / b ≤ wholeI c t b ∧ wholeI c t b ≤ 0 - (0 - t) / b := by
  have tl := fl_le_cl (t := t) hb
  rcases whole_two (c := c) (t := t) hb with e | e <;> rw [e] <;> omega
/-- the custom that stands for a custom below nought -/
def mate (c : Str) : Str := if c = "down" then "up" else if c = "up" then "down" else c
theorem near_neg {c : Str} {t b : Int} (hb : 0 < b) : nearI c (0 - t) b = 0 - nearI c t b := by
  obtain ⟨r0, r1⟩ := rem_b (t := t) hb
  by_cases z : t - t / b * b = 0
  · have e := ceil_eq0 hb z
    have q : (0 - t) / b = 0 - t / b := by omega
    have q2 : (0 - t / b) * b = 0 - t / b * b := by rw [Int.sub_mul, Int.zero_mul]
    unfold nearI
    rw [q]
    rw [q2, if_neg (show ¬ (2 * (0 - t - (0 - t / b * b)) = b) by omega), if_neg (show ¬ (2 * (t - t / b * b) = b) by omega), if_neg (show ¬ (b < 2 * (0 - t - (0 - t / b * b))) by omega), if_neg (show ¬ (b < 2 * (t - t / b * b)) by omega)]
    omega
  · have e := ceil_eq hb z
    have t0 : t ≠ 0 := fun e => z (by rw [e]; simp)
    have q : (0 - t) / b = 0 - t / b - 1 := by omega
    have q2 : (0 - t / b - 1) * b = 0 - t / b * b - b := by rw [Int.sub_mul, Int.sub_mul, Int.zero_mul, Int.one_mul]
    unfold nearI
    rw [q, q2]
    by_cases h : 2 * (t - t / b * b) = b
    · rw [if_pos (show 2 * (0 - t - (0 - t / b * b - b)) = b by omega), if_pos h]
      by_cases he : c = "even"
      · rw [if_pos he, if_pos he]
        omega
      · rw [if_neg he, if_neg he]
        by_cases ht : t < 0
        · rw [if_neg (show ¬ (0 - t < 0) by omega), if_pos ht]
          omega
        · rw [if_pos (show 0 - t < 0 by omega), if_neg ht]
          omega
    · rw [if_neg (show ¬ (2 * (0 - t - (0 - t / b * b - b)) = b) by omega), if_neg h]
      by_cases hl : b < 2 * (t - t / b * b)
      · rw [if_neg (show ¬ (b < 2 * (0 - t - (0 - t / b * b - b))) by omega), if_pos hl]
        omega
      · rw [if_pos (show b < 2 * (0 - t - (0 - t / b * b - b)) by omega), if_neg hl]
        omega
theorem whole_neg {c : Str} {t b : Int} (hb : 0 < b) : wholeI (mate c) (0 - t) b = 0 - wholeI c t b := by
  have n1 : ("up" : Str) ≠ "down" := by decide +kernel
  have nn : (0 - (0 - t)) = t := by omega
  unfold mate
  by_cases h1 : c = "down"
  · subst h1
    rw [if_pos rfl]
    unfold wholeI
    rw [if_neg n1, if_pos rfl, if_pos rfl, nn]
  · rw [if_neg h1]
    by_cases h2 : c = "up"
    · subst h2
      rw [if_pos rfl]
      unfold wholeI
      rw [if_pos rfl, if_neg n1, if_pos rfl]
      omega
    · rw [if_neg h2]
      unfold wholeI
      rw [if_neg h1, if_neg h2, if_neg h1, if_neg h2, nn, near_neg hb]
      have z : t = 0 → (0 - t) / b = t / b ∧ t / b = 0 := fun e => by
        subst e
        simp
      split
      · split
        · split
          · have := z (by omega)
            omega
          · omega
        · split
          · omega
          · omega
      · split
        · split
          · split
            · have := z (by omega)
              omega
            · omega
          · split
            · omega
            · omega
        · rfl
/-! ### along a road -/
theorem stpI_eq {c : Str} {x : Int} {p : Int × Int} (hp : RtOk p) : stpI c x p = wholeI c (x * p.1) p.2 := by
  have h1 : 0 < 1 * p.2 := by have := hp.p2; omega
  have g := gI_pos (t := x * p.1) h1
  obtain ⟨e1, e2⟩ := red_eq (t := x * p.1) (b := 1 * p.2)
  unfold stpI toldI exI
  rw [Int.mul_one, Int.mul_one]
  have := whole_scale (c := c) (t := (red (x * p.1) (1 * p.2)).1) (b := (red (x * p.1) (1 * p.2)).2) g
  rw [Int.mul_comm _ (red (x * p.1) (1 * p.2)).1, Int.mul_comm _ (red (x * p.1) (1 * p.2)).2, ← e1, ← e2, Int.one_mul] at this
  rw [Int.one_mul]
  exact this.symm
def endI (c : Str) (x : Int) (ps : List (Int × Int)) : Int := ps.foldl (stpI c) x
theorem endI_mono {c : Str} : ∀ {ps : List (Int × Int)} {x y : Int}, (∀ p ∈ ps, RtOk p) → x ≤ y → endI c x ps ≤ endI c y ps
  | [], _, _, _, h => h
  | p :: ps, x, y, hp, h => by
    have ok := hp p List.mem_cons_self
    refine endI_mono (ps := ps) (fun r hr => hp r (List.mem_cons_of_mem _ hr)) ?_
    rw [stpI_eq ok, stpI_eq ok]
    exact whole_mono ok.p2 (Int.mul_le_mul_of_nonneg_right h (by have := ok.p1; omega))
theorem endI_neg {c : Str} : ∀ {ps : List (Int × Int)} {x : Int}, (∀ p ∈ ps, RtOk p) → endI (mate c) (0 - x) ps = 0 - endI c x ps
  | [], _, _ => rfl
  | p :: ps, x, hp => by
    have ok := hp p List.mem_cons_self
    show endI (mate c) (stpI (mate c) (0 - x) p) ps = 0 - endI c (stpI c x p) ps
    rw [stpI_eq ok, stpI_eq ok, ← endI_neg fun r hr => hp r (List.mem_cons_of_mem _ hr), ← whole_neg ok.p2]
    rw [Int.sub_mul, Int.zero_mul]
theorem endI_le {c d : Str} (h : ∀ t b : Int, 0 < b → wholeI c t b ≤ wholeI d t b) : ∀ {ps : List (Int × Int)} {x y : Int}, (∀ p ∈ ps, RtOk p) → x ≤ y → endI c x ps ≤ endI d y ps
  | [], _, _, _, h => h
  | p :: ps, x, y, hp, e => by
    have ok := hp p List.mem_cons_self
    refine endI_le h (ps := ps) (fun r hr => hp r (List.mem_cons_of_mem _ hr)) ?_
    rw [stpI_eq ok, stpI_eq ok]
    exact Int.le_trans (whole_mono ok.p2 (Int.mul_le_mul_of_nonneg_right e (by have := ok.p1; omega))) (h _ _ ok.p2)
theorem whole_down {t b : Int} : wholeI "down" t b = t / b := if_pos rfl
theorem whole_up {t b : Int} : wholeI "up" t b = 0 - (0 - t) / b := by
  unfold wholeI
  rw [if_neg (by decide +kernel), if_pos rfl]
theorem end_down {c : Str} {ps : List (Int × Int)} {x : Int} (hp : ∀ p ∈ ps, RtOk p) : endI "down" x ps ≤ endI c x ps :=
  endI_le (fun t b hb => by rw [whole_down]; exact (whole_between hb).1) hp (Int.le_refl _)
theorem end_up {c : Str} {ps : List (Int × Int)} {x : Int} (hp : ∀ p ∈ ps, RtOk p) : endI c x ps ≤ endI "up" x ps :=
  endI_le (fun t b hb => by rw [whole_up]; exact (whole_between hb).2) hp (Int.le_refl _)
theorem whole_in {t b : Int} : wholeI "in" t b = if 0 ≤ t then t / b else 0 - (0 - t) / b := by
  unfold wholeI
  rw [if_neg (by decide +kernel), if_neg (by decide +kernel), if_pos rfl]
theorem whole_out {t b : Int} : wholeI "out" t b = if 0 ≤ t then 0 - (0 - t) / b else t / b := by
  unfold wholeI
  rw [if_neg (by decide +kernel), if_neg (by decide +kernel), if_neg (by decide +kernel), if_pos rfl]
theorem cl0 {b : Int} : 0 - (0 - (0 : Int)) / b = 0 / b := by simp
/-- above nought in is down, out is up -/
theorem end_pos : ∀ {ps : List (Int × Int)} {x y : Int}, (∀ p ∈ ps, RtOk p) → 0 ≤ x → 0 ≤ y → endI "in" x ps = endI "down" x ps ∧ endI "out" y ps = endI "up" y ps
  | [], _, _, _, _, _ => ⟨rfl, rfl⟩
  | p :: ps, x, y, hp, h, k => by
    have ok := hp p List.mem_cons_self
    have h1 : 0 ≤ x * p.1 := Int.mul_nonneg h (by have := ok.p1; omega)
    have h2 : 0 ≤ y * p.1 := Int.mul_nonneg k (by have := ok.p1; omega)
    have e1 : stpI "in" x p = stpI "down" x p := by rw [stpI_eq ok, stpI_eq ok, whole_in, whole_down, if_pos h1]
    have e2 : stpI "out" y p = stpI "up" y p := by rw [stpI_eq ok, stpI_eq ok, whole_out, whole_up, if_pos h2]
    have n1 : 0 ≤ stpI "down" x p := by
      rw [stpI_eq ok, whole_down]
      exact Int.ediv_nonneg h1 (by have := ok.p2; omega)
    have n2 : 0 ≤ stpI "up" y p := by
      rw [stpI_eq ok, whole_up]
      have := fl_le_cl (t := y * p.1) ok.p2
      have := Int.ediv_nonneg h2 (by have := ok.p2; omega : 0 ≤ p.2)
      omega
    obtain ⟨q1, q2⟩ := end_pos (ps := ps) (fun r hr => hp r (List.mem_cons_of_mem _ hr)) n1 n2
    exact ⟨by show endI "in" (stpI "in" x p) ps = endI "down" (stpI "down" x p) ps; rw [e1, q1], by show endI "out" (stpI "out" y p) ps = endI "up" (stpI "up" y p) ps; rw [e2, q2]⟩
/-- below nought in is up, out is down -/
theorem end_neg : ∀ {ps : List (Int × Int)} {x y : Int}, (∀ p ∈ ps, RtOk p) → x ≤ 0 → y ≤ 0 → endI "in" x ps = endI "up" x ps ∧ endI "out" y ps = endI "down" y ps
  | [], _, _, _, _, _ => ⟨rfl, rfl⟩
  | p :: ps, x, y, hp, h, k => by
    have ok := hp p List.mem_cons_self
    have h1 : x * p.1 ≤ 0 := Int.mul_nonpos_of_nonpos_of_nonneg h (by have := ok.p1; omega)
    have h2 : y * p.1 ≤ 0 := Int.mul_nonpos_of_nonpos_of_nonneg k (by have := ok.p1; omega)
    have e1 : stpI "in" x p = stpI "up" x p := by
      rw [stpI_eq ok, stpI_eq ok, whole_in, whole_up]
      split
      · have : x * p.1 = 0 := by omega
        rw [this]
        exact cl0.symm
      · rfl
    have e2 : stpI "out" y p = stpI "down" y p := by
      rw [stpI_eq ok, stpI_eq ok, whole_out, whole_down]
      split
      · have : y * p.1 = 0 := by omega
        rw [this]
        exact cl0
      · rfl
    have n1 : stpI "up" x p ≤ 0 := by
      rw [stpI_eq ok, whole_up]
      have := Int.ediv_nonneg (a := 0 - x * p.1) (by omega) (by have := ok.p2; omega : 0 ≤ p.2)
      omega
    have n2 : stpI "down" y p ≤ 0 := by
      rw [stpI_eq ok, whole_down]
      have := fl_le_cl (t := y * p.1) ok.p2
      have := Int.ediv_nonneg (a := 0 - y * p.1) (by omega) (by have := ok.p2; omega : 0 ≤ p.2)
      omega
    obtain ⟨q1, q2⟩ := end_neg (ps := ps) (fun r hr => hp r (List.mem_cons_of_mem _ hr)) n1 n2
    exact ⟨by show endI "in" (stpI "in" x p) ps = endI "up" (stpI "up" x p) ps; rw [e1, q1], by show endI "out" (stpI "out" y p) ps = endI "down" (stpI "down" y p) ps; rw [e2, q2]⟩
/-! ### the worth -/
theorem fl_mul {t b : Int} (hb : 0 < b) : t / b * b ≤ t := by
  have := rem_b (t := t) hb
  omega
theorem cl_mul {t b : Int} (hb : 0 < b) : t ≤ (0 - (0 - t) / b) * b := by
  have := fl_mul (t := 0 - t) hb
  rw [Int.sub_mul, Int.zero_mul]
  omega
theorem red_cross {t b x : Int} (hb : 0 < b) : (x * b ≤ t ↔ x * (red t b).2 ≤ (red t b).1) ∧ (t ≤ x * b ↔ (red t b).1 ≤ x * (red t b).2) := by
  obtain ⟨e1, e2⟩ := red_eq (t := t) (b := b)
  have g := gI_pos (t := t) hb
  generalize gI t b = G at *
  generalize red t b = r at *
  subst e1 e2
  rw [← Int.mul_assoc]
  constructor
  · exact ⟨fun h => Int.le_of_mul_le_mul_right h g, fun h => Int.mul_le_mul_of_nonneg_right h (by omega)⟩
  · exact ⟨fun h => Int.le_of_mul_le_mul_right h g, fun h => Int.mul_le_mul_of_nonneg_right h (by omega)⟩
theorem worth_ok : ∀ {ps : List (Int × Int)} {q : Int × Int} {x y : Int}, (∀ p ∈ ps, RtOk p) → 0 < q.2 → x * q.2 ≤ q.1 → q.1 ≤ y * q.2 →
    endI "down" x ps * (worthL q ps).2 ≤ (worthL q ps).1 ∧ (worthL q ps).1 ≤ endI "up" y ps * (worthL q ps).2
  | [], q, x, y, _, _, h, k => ⟨h, k⟩
  | p :: ps, q, x, y, hp, hq, h, k => by
    have ok := hp p List.mem_cons_self
    have pos := Int.mul_pos hq ok.p2
    refine worth_ok (ps := ps) (q := red (q.1 * p.1) (q.2 * p.2)) (fun r hr => hp r (List.mem_cons_of_mem _ hr)) (red_pos pos) ((red_cross pos).1.mp ?_) ((red_cross pos).2.mp ?_)
    · rw [stpI_eq ok, whole_down, Int.mul_comm q.2 p.2, ← Int.mul_assoc]
      have h1 : x * p.1 / p.2 * p.2 * q.2 ≤ x * p.1 * q.2 := Int.mul_le_mul_of_nonneg_right (fl_mul ok.p2) (by omega)
      have h2 : x * q.2 * p.1 ≤ q.1 * p.1 := Int.mul_le_mul_of_nonneg_right h (by have := ok.p1; omega)
      rw [Int.mul_right_comm x q.2 p.1] at h2
      omega
    · rw [stpI_eq ok, whole_up, Int.mul_comm q.2 p.2, ← Int.mul_assoc]
      have h1 : y * p.1 * q.2 ≤ (0 - (0 - y * p.1) / p.2) * p.2 * q.2 := Int.mul_le_mul_of_nonneg_right (cl_mul ok.p2) (by omega)
      have h2 : q.1 * p.1 ≤ y * q.2 * p.1 := Int.mul_le_mul_of_nonneg_right k (by have := ok.p1; omega)
      rw [Int.mul_right_comm y q.2 p.1] at h2
      omega
/-! ### the paper's end -/
theorem paper_last (c : Str) : ∀ (qs : List (Str × Str)) (ps : List (Int × Int)) (x : Int), qs.length = ps.length → ps ≠ [] → ∃ a b y e r, (paper c x qs ps).getLast? = some (.tuple [.str a, .str b, .int y, fr e, .int (endI c x ps), fr r])
  | [], [], _, _, h => absurd rfl h
  | [], _ :: _, _, h, _ => by simp at h
  | _ :: _, [], _, h, _ => by simp at h
  | q :: qs, p :: ps, x, h, _ => by
    have e : paper c x (q :: qs) (p :: ps) = row c x q p :: paper c (stpI c x p) qs ps := by rw [paper]
    rw [e]
    by_cases hn : ps = []
    · subst hn
      have : qs = [] := List.eq_nil_of_length_eq_zero (by simpa using h)
      subst this
      have e2 : paper c (stpI c x p) [] [] = [] := by rw [paper]; intro _ _ _ _ h; cases h
      rw [e2]
      exact ⟨_, _, _, _, _, rfl⟩
    · obtain ⟨a, b, y, e1, r, hl⟩ := paper_last c qs ps (stpI c x p) (by simpa using h) hn
      refine ⟨a, b, y, e1, r, ?_⟩
      rw [List.getLast?_cons, hl]
      rfl
end Mp
end

/-! ## L1 -/
section
set_option linter.all false
set_option maxRecDepth 100000
namespace Mp
open PySem
local macro_rules | `(tactic| one_item) => `(tactic| simp (config := { decide := false }) only [↓bnd_p, bnd_s, bnd_n, runF_e, endF_nx, endF_rt, exs_c, exs_n, seqF_nx, seqF_rt, seqF_bk, seqF_ct, ex.eq_1, ex.eq_2, ex.eq_3, ex.eq_4, ex.eq_5, ex.eq_6, ex.eq_7, ex.eq_8, ex.eq_9, ex.eq_10, ex.eq_11, ex.eq_12, ex.eq_15, ex.eq_16, ex.eq_17, ex.eq_18, ev.eq_1, ev.eq_2, ev.eq_3, ev.eq_4, ev.eq_5, ev.eq_6, ev.eq_7, ev.eq_8, ev.eq_9, ev.eq_10, ev.eq_11, ev.eq_12, ev.eq_13, ev.eq_14, ev.eq_15, ev.eq_16, ev.eq_17, ev.eq_18, ev.eq_19, ev.eq_20, ev.eq_23, ev.eq_24, ev.eq_25, ev.eq_26, ev.eq_27, evs, evas, evac, evc, evo, evod, evit.eq_1, evit.eq_3, evit.eq_4, evit.eq_5, evit.eq_6, evit.eq_7, evOs, arB_cst, arC_cst, arB_bin, arC_bin, arB_neg, arC_neg, arB_not, arC_not, arB_cmp, arC_cmp, arB_chn, arC_chn, arB_and, arC_and, arB_or, arC_or, arB_ife, arC_ife, arB_tup, arC_tup, arB_lst, arC_lst, arB_dct, arC_dct, arB_idx, arC_idx, arB_slc, arC_slc, arB_stp, arC_stp, arB_cal, arC_cal, arB_blt, arC_blt, arB_mth, arC_mth, arB_isi, arC_isi, arB_lc, arC_lc, arB_dc, arC_dc, arB_pop, arC_pop, arB_app, arC_app, arB_ext, arC_ext, arB_upd, arC_upd, arB_fst, arC_fst, arB_n, arC_n, arN_s, rdA_v, rdA_s, rdAs, hand, ownSl, putB, nodO, isLst, selK, binO, cmpO, ownIx, outs, pairUp_n, pairUp_s, mrg_n, isOwn_v, isOwn_l, isOwn_d, isOO_v, isOO_l, isOO_d, isO_n, isO_b, isNn_n, isNn_i, isNn_b, isNn_s, isNn_t, isNn_l, notB, leO_i, geO_i, ltO_i, gtO_i, eqO, intsO_i, addO_i, addO_t, addO_l, mulO_i, bolO_b, intO_i, isiD, idxO_t, idxO_l, idxO_vl, dctO_d, dctO_v, seqD_l, seqD_t, seqD_vl, lstO_l, lstO_vl, tupO_t, blO, one_e, two_e, absO_i, intB_i, intB_b, onInts_l, onBools_l, min2_i, max2_i, len_t, len_l, len_vl, len_s, setO_l, ixSet_e, List.set_cons_zero, List.set_cons_succ, asgT_n, asgT_t, asgTs_n, asgTs_c, tgOk_n, tgOk_t, tgsOk_n, tgsOk_c, setOs, wipe, back, slcO_t, slcO_vl, slcO_l, itO_l, itO_vl, itO_t, frA, d_v, d_l, d_d, at_z, at_s, set_z, set_s, ixI_0, ixI_1, ixI_2, ixI_3, ixI_4, eqP_i, eqP_s, nc, List.length_cons, List.length_nil, List.map_cons, List.map_nil, List.cons_append, List.nil_append, List.append_nil, rep_s, rep_z, all_rep, Nat.reduceAdd, Nat.reduceSub, Nat.reduceEqDiff, List.getElem?_cons_zero, List.getElem?_cons_succ, ↓Option.bind_eq_bind, Option.bind_some, Option.bind_none, Option.map_some, Option.map_none, Option.pure_def, if_true, if_false, ite_true, ite_false, reduceIte, Bool.not_true, Bool.not_false, Bool.false_eq_true, List.any_cons, List.any_nil, List.contains_cons, List.contains_nil, Bool.or_false, Bool.false_or, Bool.or_self, Bool.and_true, Bool.true_and, Bool.and_self, Bool.and_false, Bool.false_and, Bool.or_true, Bool.true_or, List.nodup_nil, List.nodup_cons, List.mem_cons, List.not_mem_nil, or_false, or_self, not_false_eq_true, and_true, and_self, Nat.reduceEqDiff, Nat.succ_ne_zero, Nat.zero_ne_one, Nat.one_ne_zero, beq_self_eq_true, Nat.reduceBEq, Int.reduceMul, Int.reduceNeg, decide_true, decide_false, Int.reduceLT, Int.reduceLE, Int.reduceEq, Int.ofNat_eq_natCast])
local macro_rules | `(tactic| one_place) => `(tactic| simp (config := { decide := false }) only [↓bnd_p, bnd_s, bnd_n, runF_e, endF_nx, endF_rt, exs_c, exs_n, seqF_nx, seqF_rt, seqF_bk, seqF_ct, ex.eq_1, ex.eq_2, ex.eq_3, ex.eq_4, ex.eq_5, ex.eq_6, ex.eq_7, ex.eq_8, ex.eq_9, ex.eq_10, ex.eq_11, ex.eq_12, ex.eq_15, ex.eq_16, ex.eq_17, ex.eq_18, ev.eq_1, ev.eq_2, ev.eq_3, ev.eq_4, ev.eq_5, ev.eq_6, ev.eq_7, ev.eq_8, ev.eq_9, ev.eq_10, ev.eq_11, ev.eq_12, ev.eq_13, ev.eq_14, ev.eq_15, ev.eq_16, ev.eq_17, ev.eq_18, ev.eq_19, ev.eq_20, ev.eq_23, ev.eq_24, ev.eq_25, ev.eq_26, ev.eq_27, evs, evas, evac, evc, evo, evod, evit.eq_1, evit.eq_3, evit.eq_4, evit.eq_5, evit.eq_6, evit.eq_7, evOs, arB_cst, arC_cst, arB_bin, arC_bin, arB_neg, arC_neg, arB_not, arC_not, arB_cmp, arC_cmp, arB_chn, arC_chn, arB_and, arC_and, arB_or, arC_or, arB_ife, arC_ife, arB_tup, arC_tup, arB_lst, arC_lst, arB_dct, arC_dct, arB_idx, arC_idx, arB_slc, arC_slc, arB_stp, arC_stp, arB_cal, arC_cal, arB_blt, arC_blt, arB_mth, arC_mth, arB_isi, arC_isi, arB_lc, arC_lc, arB_dc, arC_dc, arB_pop, arC_pop, arB_app, arC_app, arB_ext, arC_ext, arB_upd, arC_upd, arB_fst, arC_fst, arB_n, arC_n, arN_s, rdA_v, rdA_s, rdAs, hand, ownSl, putB, nodO, isLst, selK, binO, cmpO, ownIx, outs, pairUp_n, pairUp_s, mrg_n, isOwn_v, isOwn_l, isOwn_d, isOO_v, isOO_l, isOO_d, isO_n, isO_b, isNn_n, isNn_i, isNn_b, isNn_s, isNn_t, isNn_l, notB, leO_i, geO_i, ltO_i, gtO_i, eqO, intsO_i, addO_i, addO_t, addO_l, mulO_i, bolO_b, intO_i, isiD, idxO_t, idxO_l, idxO_vl, dctO_d, dctO_v, seqD_l, seqD_t, seqD_vl, lstO_l, lstO_vl, tupO_t, blO, one_e, two_e, absO_i, intB_i, intB_b, onInts_l, onBools_l, min2_i, max2_i, len_t, len_l, len_vl, len_s, setO_l, ixSet_e, List.set_cons_zero, List.set_cons_succ, asgT_n, asgT_t, asgTs_n, asgTs_c, tgOk_n, tgOk_t, tgsOk_n, tgsOk_c, setOs, wipe, back, slcO_t, slcO_vl, slcO_l, itO_l, itO_vl, itO_t, frA, d_v, d_l, d_d, at_z, at_s, set_z, set_s, ixI_0, ixI_1, ixI_2, ixI_3, ixI_4, eqP_i, eqP_s, nc, List.length_cons, List.length_nil, List.map_cons, List.map_nil, List.cons_append, List.nil_append, List.append_nil, rep_s, rep_z, all_rep, Nat.reduceAdd, Nat.reduceSub, Nat.reduceEqDiff, List.getElem?_cons_zero, List.getElem?_cons_succ, ↓Option.bind_eq_bind, Option.bind_some, Option.bind_none, Option.map_some, Option.map_none, Option.pure_def, if_true, if_false, ite_true, ite_false, reduceIte, Bool.not_true, Bool.not_false, Bool.false_eq_true, List.any_cons, List.any_nil, List.contains_cons, List.contains_nil, Bool.or_false, Bool.false_or, Bool.or_self, Bool.and_true, Bool.true_and, Bool.and_self, Bool.and_false, Bool.false_and, Bool.or_true, Bool.true_or, List.nodup_nil, List.nodup_cons, List.mem_cons, List.not_mem_nil, or_false, or_self, not_false_eq_true, and_true, and_self, Nat.reduceEqDiff, Nat.succ_ne_zero, Nat.zero_ne_one, Nat.one_ne_zero, beq_self_eq_true, Nat.reduceBEq, Int.reduceMul, Int.reduceNeg, decide_true, decide_false, Int.reduceLT, Int.reduceLE, Int.reduceEq, Int.ofNat_eq_natCast, *])
section
variable {lw : List Fd} (n : Nat)
/-! ### what is drawn -/
def StOk (st : List D) : Prop := ∃ a b c : Int, st = [.int a, .int b, .int c] ∧ 0 ≤ a ∧ 0 ≤ b ∧ b < 2147483647
theorem cell_at_i (ns : List Int) (k : Nat) : ∃ z : Int, callD (FN lw) (n + 1) 40 [.v (.list (ns.map .int)), .v (.int k)] = some (.v (.int z), [.v (.list (ns.map .int)), .v (.int k)]) := by
  rw [callS (fd := Lib.b_l_cell_at) rfl]
  unfold Lib.b_l_cell_at
  one_item
  by_cases h : k < ns.length
  · have h1 : decide ((k : Int) < ((ns.map PyData.int).length : Int)) = true := decide_eq_true (by rw [List.length_map]; omega)
    have h2 : ixI (ns.map PyData.int).length (k : Int) = some k := by
      unfold ixI
      rw [if_pos (by omega), if_pos (by rw [List.length_map]; omega)]
      rfl
    have h3 : (ns.map PyData.int)[k]? = some (.int ns[k]) := by rw [List.getElem?_map, List.getElem?_eq_getElem h]; rfl
    rw [h1]
    one_item
    rw [h2]
    one_item
    rw [h3]
    one_item
    exact ⟨_, rfl⟩
  · have h1 : decide ((k : Int) < ((ns.map PyData.int).length : Int)) = false := decide_eq_false (by rw [List.length_map]; omega)
    rw [h1]
    one_item
    exact ⟨_, rfl⟩
theorem state_i (ns : List Int) (k : Nat) : ∃ st, callD (FN lw) (n + 2) 41 [.v (.list (ns.map .int)), .v (.int k)] = some (.lst st, [.v (.list (ns.map .int)), .v (.int k)]) ∧ StOk st := by
  obtain ⟨z, e⟩ := cell_at_i (lw := lw) n ns k
  have p : powOk 10 18 = true := by decide +kernel
  rw [callS (fd := Lib.b_l_state) rfl]
  unfold Lib.b_l_state
  one_item
  rw [e]
  one_item
  rw [p]
  one_item
  refine ⟨_, rfl, _, _, _, rfl, ?_, ?_, ?_⟩
  · split <;> omega
  · exact Int.emod_nonneg _ (by decide)
  · exact Int.emod_lt_of_pos _ (by decide)
theorem take_i {st : List D} (h : StOk st) (far : Int) (hf : 0 < far) (hb : Bd 64 far) : ∃ r st', callD (FN lw) (n + 1) 42 [.lst st, .v (.int far)] = some (.v (.int r), [.lst st', .v (.int far)]) ∧ 0 ≤ r ∧ r < far ∧ StOk st' := by
  obtain ⟨a, b, c, rfl, ha, hb0, hb1⟩ := h
  have d1 : divOk far = true := divOk_of hf hb (by decide)
  have d2 := decide_eq_true hf
  rw [callS (fd := Lib.b_l_take) rfl]
  unfold Lib.b_l_take
  one_item
  by_cases h0 : 0 < a
  · rw [decide_eq_true h0]
    one_place
    exact ⟨_, _, rfl, Int.emod_nonneg _ (by omega), Int.emod_lt_of_pos _ hf, _, _, _, rfl, Int.ediv_nonneg ha (by omega), hb0, hb1⟩
  · rw [decide_eq_false h0]
    have b31 : Bd 31 b := .of (by simp; omega) (by simp; omega)
    have m1 : mulOk b 48271 = true := mulOk_of b31 (b := 16) (by unfold Bd; decide) (by decide)
    one_place
    generalize hx : (b * 48271 + 29 + (c + 1)) % 2147483647 = x
    have x0 : 0 ≤ x := by rw [← hx]; exact Int.emod_nonneg _ (by decide)
    have x1 : x < 2147483647 := by rw [← hx]; exact Int.emod_lt_of_pos _ (by decide)
    have x31 : Bd 31 x := .of (by simp; omega) (by simp; omega)
    have m2 : mulOk x x = true := mulOk_of x31 x31 (by decide)
    have m3 : mulOk 39373 x = true := mulOk_of (a := 16) (by unfold Bd; decide) x31 (by decide)
    one_place
    generalize hy : (x * x + 39373 * x + 7) % 2147483629 = y
    have y0 : 0 ≤ y := by rw [← hy]; exact Int.emod_nonneg _ (by decide)
    have y1 : y < 2147483629 := by rw [← hy]; exact Int.emod_lt_of_pos _ (by decide)
    have y31 : Bd 31 y := .of (by simp; omega) (by simp; omega)
    have m4 : mulOk y y = true := mulOk_of y31 y31 (by decide)
    have m5 : mulOk 16807 y = true := mulOk_of (a := 16) (by unfold Bd; decide) y31 (by decide)
    have d8 : divOk 8 = true := by decide +kernel
    one_place
    exact ⟨_, _, rfl, Int.emod_nonneg _ (by omega), Int.emod_lt_of_pos _ hf, _, _, _, rfl, ha, x0, x1⟩
end
end Mp
end

/-! ## L2 -/
section
set_option linter.all false
set_option maxRecDepth 100000
namespace Mp
open PySem
local macro_rules | `(tactic| one_item) => `(tactic| simp (config := { decide := false }) only [↓bnd_p, bnd_s, bnd_n, runF_e, endF_nx, endF_rt, exs_c, exs_n, seqF_nx, seqF_rt, seqF_bk, seqF_ct, ex.eq_1, ex.eq_2, ex.eq_3, ex.eq_4, ex.eq_5, ex.eq_6, ex.eq_7, ex.eq_8, ex.eq_9, ex.eq_10, ex.eq_11, ex.eq_12, ex.eq_15, ex.eq_16, ex.eq_17, ex.eq_18, ev.eq_1, ev.eq_2, ev.eq_3, ev.eq_4, ev.eq_5, ev.eq_6, ev.eq_7, ev.eq_8, ev.eq_9, ev.eq_10, ev.eq_11, ev.eq_12, ev.eq_13, ev.eq_14, ev.eq_15, ev.eq_16, ev.eq_17, ev.eq_18, ev.eq_19, ev.eq_20, ev.eq_23, ev.eq_24, ev.eq_25, ev.eq_26, ev.eq_27, evs, evas, evac, evc, evo, evod, evit.eq_1, evit.eq_3, evit.eq_4, evit.eq_5, evit.eq_6, evit.eq_7, evOs, arB_cst, arC_cst, arB_bin, arC_bin, arB_neg, arC_neg, arB_not, arC_not, arB_cmp, arC_cmp, arB_chn, arC_chn, arB_and, arC_and, arB_or, arC_or, arB_ife, arC_ife, arB_tup, arC_tup, arB_lst, arC_lst, arB_dct, arC_dct, arB_idx, arC_idx, arB_slc, arC_slc, arB_stp, arC_stp, arB_cal, arC_cal, arB_blt, arC_blt, arB_mth, arC_mth, arB_isi, arC_isi, arB_lc, arC_lc, arB_dc, arC_dc, arB_pop, arC_pop, arB_app, arC_app, arB_ext, arC_ext, arB_upd, arC_upd, arB_fst, arC_fst, arB_n, arC_n, arN_s, rdA_v, rdA_s, rdAs, hand, ownSl, putB, nodO, isLst, selK, binO, cmpO, ownIx, outs, pairUp_n, pairUp_s, mrg_n, isOwn_v, isOwn_l, isOwn_d, isOO_v, isOO_l, isOO_d, isO_n, isO_b, isNn_n, isNn_i, isNn_b, isNn_s, isNn_t, isNn_l, notB, leO_i, geO_i, ltO_i, gtO_i, eqO, intsO_i, addO_i, addO_t, addO_l, mulO_i, bolO_b, intO_i, isiD, idxO_t, idxO_l, idxO_vl, dctO_d, dctO_v, seqD_l, seqD_t, seqD_vl, lstO_l, lstO_vl, tupO_t, blO, one_e, two_e, absO_i, intB_i, intB_b, onInts_l, onBools_l, min2_i, max2_i, len_t, len_l, len_vl, len_s, setO_l, ixSet_e, List.set_cons_zero, List.set_cons_succ, asgT_n, asgT_t, asgTs_n, asgTs_c, tgOk_n, tgOk_t, tgsOk_n, tgsOk_c, setOs, wipe, back, slcO_t, slcO_vl, slcO_l, itO_l, itO_vl, itO_t, frA, d_v, d_l, d_d, at_z, at_s, set_z, set_s, ixI_0, ixI_1, ixI_2, ixI_3, ixI_4, eqP_i, eqP_s, nc, List.length_cons, List.length_nil, List.map_cons, List.map_nil, List.cons_append, List.nil_append, List.append_nil, rep_s, rep_z, all_rep, Nat.reduceAdd, Nat.reduceSub, Nat.reduceEqDiff, List.getElem?_cons_zero, List.getElem?_cons_succ, ↓Option.bind_eq_bind, Option.bind_some, Option.bind_none, Option.map_some, Option.map_none, Option.pure_def, if_true, if_false, ite_true, ite_false, reduceIte, Bool.not_true, Bool.not_false, Bool.false_eq_true, List.any_cons, List.any_nil, List.contains_cons, List.contains_nil, Bool.or_false, Bool.false_or, Bool.or_self, Bool.and_true, Bool.true_and, Bool.and_self, Bool.and_false, Bool.false_and, Bool.or_true, Bool.true_or, List.nodup_nil, List.nodup_cons, List.mem_cons, List.not_mem_nil, or_false, or_self, not_false_eq_true, and_true, and_self, Nat.reduceEqDiff, Nat.succ_ne_zero, Nat.zero_ne_one, Nat.one_ne_zero, beq_self_eq_true, Nat.reduceBEq, Int.reduceMul, Int.reduceNeg, decide_true, decide_false, Int.reduceLT, Int.reduceLE, Int.reduceEq, Int.ofNat_eq_natCast])
local macro_rules | `(tactic| one_place) => `(tactic| simp (config := { decide := false }) only [↓bnd_p, bnd_s, bnd_n, runF_e, endF_nx, endF_rt, exs_c, exs_n, seqF_nx, seqF_rt, seqF_bk, seqF_ct, ex.eq_1, ex.eq_2, ex.eq_3, ex.eq_4, ex.eq_5, ex.eq_6, ex.eq_7, ex.eq_8, ex.eq_9, ex.eq_10, ex.eq_11, ex.eq_12, ex.eq_15, ex.eq_16, ex.eq_17, ex.eq_18, ev.eq_1, ev.eq_2, ev.eq_3, ev.eq_4, ev.eq_5, ev.eq_6, ev.eq_7, ev.eq_8, ev.eq_9, ev.eq_10, ev.eq_11, ev.eq_12, ev.eq_13, ev.eq_14, ev.eq_15, ev.eq_16, ev.eq_17, ev.eq_18, ev.eq_19, ev.eq_20, ev.eq_23, ev.eq_24, ev.eq_25, ev.eq_26, ev.eq_27, evs, evas, evac, evc, evo, evod, evit.eq_1, evit.eq_3, evit.eq_4, evit.eq_5, evit.eq_6, evit.eq_7, evOs, arB_cst, arC_cst, arB_bin, arC_bin, arB_neg, arC_neg, arB_not, arC_not, arB_cmp, arC_cmp, arB_chn, arC_chn, arB_and, arC_and, arB_or, arC_or, arB_ife, arC_ife, arB_tup, arC_tup, arB_lst, arC_lst, arB_dct, arC_dct, arB_idx, arC_idx, arB_slc, arC_slc, arB_stp, arC_stp, arB_cal, arC_cal, arB_blt, arC_blt, arB_mth, arC_mth, arB_isi, arC_isi, arB_lc, arC_lc, arB_dc, arC_dc, arB_pop, arC_pop, arB_app, arC_app, arB_ext, arC_ext, arB_upd, arC_upd, arB_fst, arC_fst, arB_n, arC_n, arN_s, rdA_v, rdA_s, rdAs, hand, ownSl, putB, nodO, isLst, selK, binO, cmpO, ownIx, outs, pairUp_n, pairUp_s, mrg_n, isOwn_v, isOwn_l, isOwn_d, isOO_v, isOO_l, isOO_d, isO_n, isO_b, isNn_n, isNn_i, isNn_b, isNn_s, isNn_t, isNn_l, notB, leO_i, geO_i, ltO_i, gtO_i, eqO, intsO_i, addO_i, addO_t, addO_l, mulO_i, bolO_b, intO_i, isiD, idxO_t, idxO_l, idxO_vl, dctO_d, dctO_v, seqD_l, seqD_t, seqD_vl, lstO_l, lstO_vl, tupO_t, blO, one_e, two_e, absO_i, intB_i, intB_b, onInts_l, onBools_l, min2_i, max2_i, len_t, len_l, len_vl, len_s, setO_l, ixSet_e, List.set_cons_zero, List.set_cons_succ, asgT_n, asgT_t, asgTs_n, asgTs_c, tgOk_n, tgOk_t, tgsOk_n, tgsOk_c, setOs, wipe, back, slcO_t, slcO_vl, slcO_l, itO_l, itO_vl, itO_t, frA, d_v, d_l, d_d, at_z, at_s, set_z, set_s, ixI_0, ixI_1, ixI_2, ixI_3, ixI_4, eqP_i, eqP_s, nc, List.length_cons, List.length_nil, List.map_cons, List.map_nil, List.cons_append, List.nil_append, List.append_nil, rep_s, rep_z, all_rep, Nat.reduceAdd, Nat.reduceSub, Nat.reduceEqDiff, List.getElem?_cons_zero, List.getElem?_cons_succ, ↓Option.bind_eq_bind, Option.bind_some, Option.bind_none, Option.map_some, Option.map_none, Option.pure_def, if_true, if_false, ite_true, ite_false, reduceIte, Bool.not_true, Bool.not_false, Bool.false_eq_true, List.any_cons, List.any_nil, List.contains_cons, List.contains_nil, Bool.or_false, Bool.false_or, Bool.or_self, Bool.and_true, Bool.true_and, Bool.and_self, Bool.and_false, Bool.false_and, Bool.or_true, Bool.true_or, List.nodup_nil, List.nodup_cons, List.mem_cons, List.not_mem_nil, or_false, or_self, not_false_eq_true, and_true, and_self, Nat.reduceEqDiff, Nat.succ_ne_zero, Nat.zero_ne_one, Nat.one_ne_zero, beq_self_eq_true, Nat.reduceBEq, Int.reduceMul, Int.reduceNeg, decide_true, decide_false, Int.reduceLT, Int.reduceLE, Int.reduceEq, Int.ofNat_eq_natCast, *])
section
variable {lw : List Fd} (n : Nat)
theorem low_loop (g : Ga) (t b0 : Int) : ∀ (b a : Nat), ex g [] (.whl (.cmp .gt (.nm 3) (.cst (.int 0))) [(.par [2, 3] [(.nm 3), (.bin .mod (.nm 2) (.nm 3))])]) [some (.v (.int t)), some (.v (.int b0)), some (.v (.int a)), some (.v (.int b))] = some (.nx, [some (.v (.int t)), some (.v (.int b0)), some (.v (.int (Nat.gcd a b : Nat))), some (.v (.int 0))])
  | 0, a => by
    rw [Nat.gcd_zero_right]
    exact whl_end (by one_item)
  | b + 1, a => by
    have e1 : decide ((0 : Int) < ((b + 1 : Nat) : Int)) = true := decide_eq_true (by omega)
    refine (whl_step (r1 := [some (.v (.int t)), some (.v (.int b0)), some (.v (.int a)), some (.v (.int (b + 1 : Nat)))]) (r2 := [some (.v (.int t)), some (.v (.int b0)), some (.v (.int (b + 1 : Nat))), some (.v (.int (a % (b + 1) : Nat)))]) ?_ ?_).trans ?_
    · one_place
    · one_place
      rfl
    · have lt : a % (b + 1) < b + 1 := Nat.mod_lt _ (Nat.succ_pos b)
      rw [low_loop g t b0 (a % (b + 1)) (b + 1), Nat.gcd_comm (b + 1) (a % (b + 1)), ← Nat.gcd_rec, Nat.gcd_comm]
termination_by b _ => b
theorem low_i (t b : Int) (hb : 0 < b) (bd : Bd 8000 b) : callD (FN lw) (n + 1) 43 [.v (.int t), .v (.int b)] = some (.v (fr (red t b)), [.v (.int t), .v (.int b)]) := by
  have e : divOk (gI t b) = true := divOk_of (gI_pos hb) (bd.le (by have := gI_le (t := t) hb; have := gI_pos (t := t) hb; omega)) (by decide)
  have l := low_loop (callD (FN lw) n) t b b.toNat t.natAbs
  have hbn : ((b.toNat : Nat) : Int) = b := Int.toNat_of_nonneg (by omega)
  have hg : ((Nat.gcd t.natAbs b.toNat : Nat) : Int) = gI t b := by
    unfold gI
    rw [show b.natAbs = b.toNat from by omega]
  rw [hbn, hg] at l
  rw [callS (fd := Lib.b_l_low) rfl]
  unfold Lib.b_l_low
  one_item
  rw [absI, l]
  one_place
  rfl
theorem coins_i {st : List D} (h : StOk st) : ∃ x st', callD (FN lw) (n + 2) 45 [.lst st] = some (.v (.int x), [.lst st']) ∧ Bd 100 x ∧ StOk st' := by
  obtain ⟨a, st1, e1, a0, a1, h1⟩ := take_i (lw := lw) n h 100 (by decide) (by unfold Bd; decide)
  obtain ⟨b, st2, e2, b0, b1, h2⟩ := take_i (lw := lw) n h1 (10 ^ 12) (by decide) (by unfold Bd; decide)
  obtain ⟨c, st3, e3, c0, c1, h3⟩ := take_i (lw := lw) n h2 (10 ^ 6) (by decide) (by unfold Bd; decide)
  obtain ⟨j, st4, e4, j0, j1, h4⟩ := take_i (lw := lw) n h3 8 (by decide) (by unfold Bd; decide)
  have p1 : powOk 10 12 = true := by decide +kernel
  have p2 : powOk 10 29 = true := by decide +kernel
  have p3 : powOk 10 6 = true := by decide +kernel
  obtain ⟨k, x, q1, q2, hm⟩ := pick (m := 8) [.int 0, .int 1, .int a, .int b, .int (0 - a), .int (0 - b), .int (10 ^ 29), .int (1 + c)] rfl j0 j1
  have hx : ∃ i, x = .int i ∧ Bd 100 i := by
    simp only [List.mem_cons, List.not_mem_nil, or_false] at hm
    have b100 : ∀ i : Int, -10000000000000 < i → i < 10000000000000 → Bd 100 i := fun i h1 h2 => (Bd.of64 (by omega) (by omega)).mono (by decide)
    have : (10 : Int) ^ 12 = 1000000000000 := by decide
    have : (10 : Int) ^ 6 = 1000000 := by decide
    rcases hm with rfl | rfl | rfl | rfl | rfl | rfl | rfl | rfl
    · exact ⟨_, rfl, b100 _ (by omega) (by omega)⟩
    · exact ⟨_, rfl, b100 _ (by omega) (by omega)⟩
    · exact ⟨_, rfl, b100 _ (by omega) (by omega)⟩
    · exact ⟨_, rfl, b100 _ (by omega) (by omega)⟩
    · exact ⟨_, rfl, b100 _ (by omega) (by omega)⟩
    · exact ⟨_, rfl, b100 _ (by omega) (by omega)⟩
    · exact ⟨_, rfl, by unfold Bd; decide +kernel⟩
    · exact ⟨_, rfl, b100 _ (by omega) (by omega)⟩
  obtain ⟨i, rfl, hi⟩ := hx
  refine ⟨i, st4, ?_, hi, h4⟩
  rw [callS (fd := Lib.b_l_coins) rfl]
  unfold Lib.b_l_coins
  one_item
  rw [e1]
  one_item
  rw [p1]
  one_item
  rw [show (10 : Int) ^ Int.toNat 12 = 10 ^ 12 from rfl, e2]
  one_item
  rw [p2]
  one_item
  rw [p3]
  one_item
  rw [show (10 : Int) ^ Int.toNat 6 = 10 ^ 6 from rfl, e3]
  one_item
  rw [e4]
  one_item
  rw [q1]
  one_item
  rw [show (10 : Int) ^ Int.toNat 29 = 10 ^ 29 from rfl, q2]
  one_item
theorem when_i {st : List D} (h : StOk st) : ∃ x st', callD (FN lw) (n + 2) 50 [.lst st] = some (.v (.int x), [.lst st']) ∧ (0 ≤ x ∧ x ≤ 9999) ∧ StOk st' := by
  obtain ⟨a, st1, e1, a0, a1, h1⟩ := take_i (lw := lw) n h 70 (by decide) (by unfold Bd; decide)
  obtain ⟨b, st2, e2, b0, b1, h2⟩ := take_i (lw := lw) n h1 10000 (by decide) (by unfold Bd; decide)
  obtain ⟨j, st4, e4, j0, j1, h4⟩ := take_i (lw := lw) n h2 4 (by decide) (by unfold Bd; decide)
  obtain ⟨k, x, q1, q2, hm⟩ := pick (m := 4) [.int 0, .int 9999, .int a, .int b] rfl j0 j1
  have hx : ∃ i, x = .int i ∧ 0 ≤ i ∧ i ≤ 9999 := by
    simp only [List.mem_cons, List.not_mem_nil, or_false] at hm
    rcases hm with rfl | rfl | rfl | rfl
    · exact ⟨_, rfl, by omega, by omega⟩
    · exact ⟨_, rfl, by omega, by omega⟩
    · exact ⟨_, rfl, by omega, by omega⟩
    · exact ⟨_, rfl, by omega, by omega⟩
  obtain ⟨i, rfl, hi⟩ := hx
  refine ⟨i, st4, ?_, hi, h4⟩
  rw [callS (fd := Lib.b_l_when) rfl]
  unfold Lib.b_l_when
  one_item
  rw [e1]
  one_item
  rw [e2]
  one_item
  rw [e4]
  one_item
  rw [q1]
  one_item
  rw [q2]
  one_item
end
end Mp
end

/-! ## L3 -/
section
set_option linter.all false
set_option maxRecDepth 100000
namespace Mp
open PySem
local macro_rules | `(tactic| one_item) => `(tactic| simp (config := { decide := false }) only [↓bnd_p, bnd_s, bnd_n, runF_e, endF_nx, endF_rt, exs_c, exs_n, seqF_nx, seqF_rt, seqF_bk, seqF_ct, ex.eq_1, ex.eq_2, ex.eq_3, ex.eq_4, ex.eq_5, ex.eq_6, ex.eq_7, ex.eq_8, ex.eq_9, ex.eq_10, ex.eq_11, ex.eq_12, ex.eq_15, ex.eq_16, ex.eq_17, ex.eq_18, ev.eq_1, ev.eq_2, ev.eq_3, ev.eq_4, ev.eq_5, ev.eq_6, ev.eq_7, ev.eq_8, ev.eq_9, ev.eq_10, ev.eq_11, ev.eq_12, ev.eq_13, ev.eq_14, ev.eq_15, ev.eq_16, ev.eq_17, ev.eq_18, ev.eq_19, ev.eq_20, ev.eq_23, ev.eq_24, ev.eq_25, ev.eq_26, ev.eq_27, evs, evas, evac, evc, evo, evod, evit.eq_1, evit.eq_3, evit.eq_4, evit.eq_5, evit.eq_6, evit.eq_7, evOs, arB_cst, arC_cst, arB_bin, arC_bin, arB_neg, arC_neg, arB_not, arC_not, arB_cmp, arC_cmp, arB_chn, arC_chn, arB_and, arC_and, arB_or, arC_or, arB_ife, arC_ife, arB_tup, arC_tup, arB_lst, arC_lst, arB_dct, arC_dct, arB_idx, arC_idx, arB_slc, arC_slc, arB_stp, arC_stp, arB_cal, arC_cal, arB_blt, arC_blt, arB_mth, arC_mth, arB_isi, arC_isi, arB_lc, arC_lc, arB_dc, arC_dc, arB_pop, arC_pop, arB_app, arC_app, arB_ext, arC_ext, arB_upd, arC_upd, arB_fst, arC_fst, arB_n, arC_n, arN_s, rdA_v, rdA_s, rdAs, hand, ownSl, putB, nodO, isLst, selK, binO, cmpO, ownIx, outs, pairUp_n, pairUp_s, mrg_n, isOwn_v, isOwn_l, isOwn_d, isOO_v, isOO_l, isOO_d, isO_n, isO_b, isNn_n, isNn_i, isNn_b, isNn_s, isNn_t, isNn_l, notB, leO_i, geO_i, ltO_i, gtO_i, eqO, intsO_i, addO_i, addO_t, addO_l, mulO_i, bolO_b, intO_i, isiD, idxO_t, idxO_l, idxO_vl, dctO_d, dctO_v, seqD_l, seqD_t, seqD_vl, lstO_l, lstO_vl, tupO_t, blO, one_e, two_e, absO_i, intB_i, intB_b, onInts_l, onBools_l, min2_i, max2_i, len_t, len_l, len_vl, len_s, setO_l, ixSet_e, List.set_cons_zero, List.set_cons_succ, asgT_n, asgT_t, asgTs_n, asgTs_c, tgOk_n, tgOk_t, tgsOk_n, tgsOk_c, setOs, wipe, back, slcO_t, slcO_vl, slcO_l, itO_l, itO_vl, itO_t, frA, d_v, d_l, d_d, at_z, at_s, set_z, set_s, ixI_0, ixI_1, ixI_2, ixI_3, ixI_4, eqP_i, eqP_s, nc, List.length_cons, List.length_nil, List.map_cons, List.map_nil, List.cons_append, List.nil_append, List.append_nil, rep_s, rep_z, all_rep, Nat.reduceAdd, Nat.reduceSub, Nat.reduceEqDiff, List.getElem?_cons_zero, List.getElem?_cons_succ, ↓Option.bind_eq_bind, Option.bind_some, Option.bind_none, Option.map_some, Option.map_none, Option.pure_def, if_true, if_false, ite_true, ite_false, reduceIte, Bool.not_true, Bool.not_false, Bool.false_eq_true, List.any_cons, List.any_nil, List.contains_cons, List.contains_nil, Bool.or_false, Bool.false_or, Bool.or_self, Bool.and_true, Bool.true_and, Bool.and_self, Bool.and_false, Bool.false_and, Bool.or_true, Bool.true_or, List.nodup_nil, List.nodup_cons, List.mem_cons, List.not_mem_nil, or_false, or_self, not_false_eq_true, and_true, and_self, Nat.reduceEqDiff, Nat.succ_ne_zero, Nat.zero_ne_one, Nat.one_ne_zero, beq_self_eq_true, Nat.reduceBEq, Int.reduceMul, Int.reduceNeg, decide_true, decide_false, Int.reduceLT, Int.reduceLE, Int.reduceEq, Int.ofNat_eq_natCast])
local macro_rules | `(tactic| one_place) => `(tactic| simp (config := { decide := false }) only [↓bnd_p, bnd_s, bnd_n, runF_e, endF_nx, endF_rt, exs_c, exs_n, seqF_nx, seqF_rt, seqF_bk, seqF_ct, ex.eq_1, ex.eq_2, ex.eq_3, ex.eq_4, ex.eq_5, ex.eq_6, ex.eq_7, ex.eq_8, ex.eq_9, ex.eq_10, ex.eq_11, ex.eq_12, ex.eq_15, ex.eq_16, ex.eq_17, ex.eq_18, ev.eq_1, ev.eq_2, ev.eq_3, ev.eq_4, ev.eq_5, ev.eq_6, ev.eq_7, ev.eq_8, ev.eq_9, ev.eq_10, ev.eq_11, ev.eq_12, ev.eq_13, ev.eq_14, ev.eq_15, ev.eq_16, ev.eq_17, ev.eq_18, ev.eq_19, ev.eq_20, ev.eq_23, ev.eq_24, ev.eq_25, ev.eq_26, ev.eq_27, evs, evas, evac, evc, evo, evod, evit.eq_1, evit.eq_3, evit.eq_4, evit.eq_5, evit.eq_6, evit.eq_7, evOs, arB_cst, arC_cst, arB_bin, arC_bin, arB_neg, arC_neg, arB_not, arC_not, arB_cmp, arC_cmp, arB_chn, arC_chn, arB_and, arC_and, arB_or, arC_or, arB_ife, arC_ife, arB_tup, arC_tup, arB_lst, arC_lst, arB_dct, arC_dct, arB_idx, arC_idx, arB_slc, arC_slc, arB_stp, arC_stp, arB_cal, arC_cal, arB_blt, arC_blt, arB_mth, arC_mth, arB_isi, arC_isi, arB_lc, arC_lc, arB_dc, arC_dc, arB_pop, arC_pop, arB_app, arC_app, arB_ext, arC_ext, arB_upd, arC_upd, arB_fst, arC_fst, arB_n, arC_n, arN_s, rdA_v, rdA_s, rdAs, hand, ownSl, putB, nodO, isLst, selK, binO, cmpO, ownIx, outs, pairUp_n, pairUp_s, mrg_n, isOwn_v, isOwn_l, isOwn_d, isOO_v, isOO_l, isOO_d, isO_n, isO_b, isNn_n, isNn_i, isNn_b, isNn_s, isNn_t, isNn_l, notB, leO_i, geO_i, ltO_i, gtO_i, eqO, intsO_i, addO_i, addO_t, addO_l, mulO_i, bolO_b, intO_i, isiD, idxO_t, idxO_l, idxO_vl, dctO_d, dctO_v, seqD_l, seqD_t, seqD_vl, lstO_l, lstO_vl, tupO_t, blO, one_e, two_e, absO_i, intB_i, intB_b, onInts_l, onBools_l, min2_i, max2_i, len_t, len_l, len_vl, len_s, setO_l, ixSet_e, List.set_cons_zero, List.set_cons_succ, asgT_n, asgT_t, asgTs_n, asgTs_c, tgOk_n, tgOk_t, tgsOk_n, tgsOk_c, setOs, wipe, back, slcO_t, slcO_vl, slcO_l, itO_l, itO_vl, itO_t, frA, d_v, d_l, d_d, at_z, at_s, set_z, set_s, ixI_0, ixI_1, ixI_2, ixI_3, ixI_4, eqP_i, eqP_s, nc, List.length_cons, List.length_nil, List.map_cons, List.map_nil, List.cons_append, List.nil_append, List.append_nil, rep_s, rep_z, all_rep, Nat.reduceAdd, Nat.reduceSub, Nat.reduceEqDiff, List.getElem?_cons_zero, List.getElem?_cons_succ, ↓Option.bind_eq_bind, Option.bind_some, Option.bind_none, Option.map_some, Option.map_none, Option.pure_def, if_true, if_false, ite_true, ite_false, reduceIte, Bool.not_true, Bool.not_false, Bool.false_eq_true, List.any_cons, List.any_nil, List.contains_cons, List.contains_nil, Bool.or_false, Bool.false_or, Bool.or_self, Bool.and_true, Bool.true_and, Bool.and_self, Bool.and_false, Bool.false_and, Bool.or_true, Bool.true_or, List.nodup_nil, List.nodup_cons, List.mem_cons, List.not_mem_nil, or_false, or_self, not_false_eq_true, and_true, and_self, Nat.reduceEqDiff, Nat.succ_ne_zero, Nat.zero_ne_one, Nat.one_ne_zero, beq_self_eq_true, Nat.reduceBEq, Int.reduceMul, Int.reduceNeg, decide_true, decide_false, Int.reduceLT, Int.reduceLE, Int.reduceEq, Int.ofNat_eq_natCast, *])
section
variable {lw : List Fd} (n : Nat)
def six : List Str := ["abc", "bcd", "eur", "usd", "yen", "zzz"]
theorem map_erase {xs : List Str} {k : Nat} : (xs.map PyData.str).eraseIdx k = (xs.eraseIdx k).map PyData.str := by
  induction xs generalizing k with
  | nil => cases k <;> rfl
  | cons x xs ih =>
    cases k with
    | zero => rfl
    | succ k =>
      show PyData.str x :: (xs.map PyData.str).eraseIdx k = _
      rw [ih]
      rfl
theorem codes_i {st : List D} (h : StOk st) : ∃ cs : List Str, ∃ st', callD (FN lw) (n + 2) 46 [.lst st] = some (.lst (cs.map .str), [.lst st']) ∧ (cs.Sublist six ∧ 1 ≤ cs.length ∧ cs.length ≤ 5) ∧ StOk st' := by
  obtain ⟨a, st1, e1, a0, a1, h1⟩ := take_i (lw := lw) n h 5 (by decide) (by unfold Bd; decide)
  obtain ⟨r', e, st2, cs, u, rfl, h2, hsub, hlen⟩ := forLoop_inv (f := forF (callD (FN lw) (n + 1)) [0] (.nm 2) [(.exp (.pop 1 (some (.cal 42 [(.nm 0), (.blt .len [(.nm 1)])] [] []))))])
    (fun xs r => ∃ st, ∃ cs : List Str, ∃ u, r = [some (.lst st), some (.lst (cs.map PyData.str)), u] ∧ StOk st ∧ cs.Sublist six ∧ (cs.length : Int) + (5 - a) = 6 + xs.length) (rngD 0 (5 - a)) [some (.lst st1), some (.lst (six.map PyData.str)), none]
    ⟨st1, six, none, rfl, h1, List.Sublist.refl _, by rw [rngD_len]; show (6 : Int) + _ = _; omega⟩ (fun x xs r ⟨st, cs, u, e, hs, hc, hl⟩ => by
      subst e
      rw [List.length_cons] at hl
      have hpos : 0 < cs.length := by omega
      obtain ⟨j, st3, e3, j0, j1, h3⟩ := take_i (lw := lw) n hs (cs.length : Int) (by omega) (Bd.of64 (by omega) (by have := hc.length_le; have : six.length = 6 := rfl; omega))
      obtain ⟨k, y, q1, q2, hm⟩ := pick (m := cs.length) (cs.map PyData.str) (List.length_map _) j0 (by omega)
      refine ⟨[some (.lst st3), some (.lst ((cs.eraseIdx k).map PyData.str)), some (.v x)], ?_, st3, cs.eraseIdx k, some (.v x), rfl, h3, (List.eraseIdx_sublist _ _).trans hc, ?_⟩
      · unfold forF
        one_item
        rw [List.length_map, e3]
        one_item
        unfold popO
        one_item
        rw [List.length_map, q1]
        one_item
        rw [q2]
        one_item
        rw [map_erase]
      · have hk : k < cs.length := by
          have := (List.getElem?_eq_some_iff.mp q2).1
          rwa [List.length_map] at this
        rw [List.length_eraseIdx_of_lt hk]
        omega)
  have hlen' : (cs.length : Int) + (5 - a) = 6 := by simpa using hlen
  refine ⟨cs, st2, ?_, ⟨hsub, by omega, by omega⟩, h2⟩
  rw [callS (fd := Lib.b_l_codes) rfl]
  unfold Lib.b_l_codes
  one_item
  rw [for_run (evit_rng (i := 0) (j := 5 - a) (r1 := [some (.lst st), some (.lst (six.map PyData.str)), none]) (r2 := [some (.lst st1), some (.lst (six.map PyData.str)), none]) (by one_item; rfl) (by
    one_item
    rw [e1]
    one_item) (by decide) (by omega)) (by one_item) e]
  one_item
theorem names_r (R : RulesT) : callD (FN lw) (n + 1) 51 [.v R.enc] = some (.lst ((codes R).map .str), [.v R.enc]) := by
  rw [callS (fd := Lib.b_l_names) rfl]
  unfold Lib.b_l_names RulesT.enc
  generalize hr : PyData.tuple (R.rat.map encR) = r1
  generalize ht : PyData.tuple (R.tax.map encT) = r2
  generalize hu : PyData.tuple (R.cus.map encU) = r3
  one_item
  obtain ⟨s1, e1, u1, rfl⟩ := lc_map (f := lcF (callD (FN lw) n) [1] (.idx (.nm 1) (.cst (.int 0))) (.nm 1) []) (fun s => ∃ u, s = [some (.v (.tuple [.tuple (R.cur.map encC), r1, r2, r3])), u]) (F := hd0) (xs := R.cur.map encC) (fun x hx s ⟨u, e⟩ => by
    subst e
    obtain ⟨c, hc, rfl⟩ := List.mem_map.mp hx
    refine ⟨[some (.v (.tuple [.tuple (R.cur.map encC), r1, r2, r3])), some (.v (encC c))], ?_, ⟨_, rfl⟩⟩
    unfold lcF encC hd0
    one_item) [some (.v (.tuple [.tuple (R.cur.map encC), r1, r2, r3])), none] ⟨_, rfl⟩
  rw [lc_run (xs := R.cur.map encC) (r1 := [some (.v (.tuple [.tuple (R.cur.map encC), r1, r2, r3])), none]) (by one_item) e1]
  one_item
  rw [map_map_D (G := fun c => .str c.1) fun c => rfl]
  unfold codes
  rw [List.map_map]
  rfl
/-! ### the law's own look at rates -/
def hits (R : RulesT) (day : Int) (a b : Str) : Prop := ∃ r ∈ R.rat, r.2.2.1 ≤ day ∧ ((r.1 = a ∧ r.2.1 = b) ∨ (r.1 = b ∧ r.2.1 = a))
theorem memD_pp {l h a b : Str} : memD (.tuple [.str l, .str h]) [.tuple [.str a, .str b], .tuple [.str b, .str a]] = some ((decide (a = l) && decide (b = h)) || (decide (b = l) && decide (a = h))) := by
  show some (((a == l) && ((b == h) && true)) || ((((b == l) && ((a == h) && true))) || false)) = _
  rw [Bool.and_true, Bool.and_true, Bool.or_false]
  rfl
theorem l_rate_r (R : RulesT) (hR : RulesOk R) (day : Int) (a b : Str) : ∃ d, callD (FN lw) (n + 2) 52 [.v R.enc, .v (.int day), .v (.str a), .v (.str b)] = some (.v d, [.v R.enc, .v (.int day), .v (.str a), .v (.str b)]) ∧ (isNn d = false → a = b ∨ hits R day a b) := by
  rw [callS (fd := Lib.b_l_rate) rfl]
  unfold Lib.b_l_rate RulesT.enc
  generalize hc : PyData.tuple (R.cur.map encC) = r0
  generalize ht : PyData.tuple (R.tax.map encT) = r2
  generalize hu : PyData.tuple (R.cus.map encU) = r3
  one_item
  by_cases hab : a = b
  · rw [decide_eq_true hab]
    one_item
    exact ⟨_, rfl, fun _ => .inl hab⟩
  · rw [decide_eq_false hab]
    one_item
    obtain ⟨r', e, rows, d, best, u6, u7, u8, u9, u10, rfl, _, hd⟩ := forLoop_inv (f := forF (callD (FN lw) (n + 1)) [] (.tp [(.nm 6), (.nm 7), (.nm 8), (.nm 9), (.nm 10)]) [(.iff (.and (.cmp .le (.nm 8) (.nm 1)) (.and (.cmp .gt (.nm 8) (.nm 5)) (.cmp .isin (.tup [(.nm 6), (.nm 7)]) (.tup [(.tup [(.nm 2), (.nm 3)]), (.tup [(.nm 3), (.nm 2)])])))) [(.par [4, 5] [(.ife (.cmp .eq (.nm 6) (.nm 2)) (.cal 43 [(.nm 9), (.nm 10)] [] []) (.cal 43 [(.nm 10), (.nm 9)] [] [])), (.nm 8)])] [])])
      (fun xs r => ∃ rows : List RatT, ∃ d best u6 u7 u8 u9 u10, r = [some (.v (.tuple [r0, .tuple (R.rat.map encR), r2, r3])), some (.v (.int day)), some (.v (.str a)), some (.v (.str b)), some (.v d), some (.v (.int best)), u6, u7, u8, u9, u10] ∧ (xs = rows.map encR ∧ ∀ r ∈ rows, r ∈ R.rat) ∧ (isNn d = false → hits R day a b)) (R.rat.map encR)
      [some (.v (.tuple [r0, .tuple (R.rat.map encR), r2, r3])), some (.v (.int day)), some (.v (.str a)), some (.v (.str b)), some (.v .none), some (.v (.int (-1))), none, none, none, none, none] ⟨R.rat, .none, -1, none, none, none, none, none, rfl, ⟨rfl, fun _ h => h⟩, fun h => by cases h⟩ (fun x xs r ⟨rows, d, best, u6, u7, u8, u9, u10, e, ⟨ex, hrows⟩, hd⟩ => by
        subst e
        cases rows with
        | nil => cases ex
        | cons c rows =>
          rw [List.map_cons] at ex
          obtain ⟨rfl, rfl⟩ := List.cons.inj ex
          have hcm := hrows c List.mem_cons_self
          have ok := hR.rat c hcm
          have rest : ∀ r ∈ rows, r ∈ R.rat := fun r hr => hrows r (List.mem_cons_of_mem _ hr)
          unfold forF encR
          one_item
          by_cases h1 : c.2.2.1 ≤ day
          · rw [decide_eq_true h1]
            one_item
            by_cases h2 : best < c.2.2.1
            · rw [decide_eq_true h2]
              one_item
              rw [show inO (.v (.tuple [.str c.1, .str c.2.1])) (.v (.tuple [.tuple [.str a, .str b], .tuple [.str b, .str a]])) = some ((decide (a = c.1) && decide (b = c.2.1)) || (decide (b = c.1) && decide (a = c.2.1))) from memD_pp]
              one_item
              by_cases h3 : ((decide (a = c.1) && decide (b = c.2.1)) || (decide (b = c.1) && decide (a = c.2.1))) = true
              · rw [h3]
                have hh : hits R day a b := by
                  refine ⟨c, hcm, h1, ?_⟩
                  simp only [Bool.or_eq_true, Bool.and_eq_true, decide_eq_true_eq] at h3
                  rcases h3 with ⟨q1, q2⟩ | ⟨q1, q2⟩
                  · exact .inl ⟨q1.symm, q2.symm⟩
                  · exact .inr ⟨q1.symm, q2.symm⟩
                one_item
                by_cases h4 : c.1 = a
                · rw [decide_eq_true h4]
                  one_item
                  rw [low_i _ _ _ (by have := ok.bot; omega) ((Bd.of64 (by have := ok.bot; omega) (by have := ok.bot; omega)).mono (by decide))]
                  one_item
                  exact ⟨_, rfl, rows, _, _, _, _, _, _, _, rfl, ⟨rfl, rest⟩, fun _ => hh⟩
                · rw [decide_eq_false h4]
                  one_item
                  rw [low_i _ _ _ (by have := ok.top; omega) ((Bd.of64 (by have := ok.top; omega) (by have := ok.top; omega)).mono (by decide))]
                  one_item
                  exact ⟨_, rfl, rows, _, _, _, _, _, _, _, rfl, ⟨rfl, rest⟩, fun _ => hh⟩
              · rw [Bool.eq_false_iff.mpr h3]
                one_item
                exact ⟨_, rfl, rows, _, _, _, _, _, _, _, rfl, ⟨rfl, rest⟩, hd⟩
            · rw [decide_eq_false h2]
              one_item
              exact ⟨_, rfl, rows, _, _, _, _, _, _, _, rfl, ⟨rfl, rest⟩, hd⟩
          · rw [decide_eq_false h1]
            one_item
            exact ⟨_, rfl, rows, _, _, _, _, _, _, _, rfl, ⟨rfl, rest⟩, hd⟩)
    rw [for_run (r1 := [some (.v (.tuple [r0, .tuple (R.rat.map encR), r2, r3])), some (.v (.int day)), some (.v (.str a)), some (.v (.str b)), some (.v .none), some (.v (.int (-1))), none, none, none, none, none]) (by one_item) (by one_item) e]
    one_item
    exact ⟨_, rfl, fun h => .inr (hd h)⟩
theorem hits_rate {R : RulesT} (hR : RulesOk R) {day : Int} {a b : Str} (hab : a ≠ b) (h : hits R day a b) : (rateAt R day a b).isSome := by
  obtain ⟨r, hr, hd, hp⟩ := h
  have ok := hR.rat r hr
  have irr : ∀ x : List Nat, ¬ (x < x) := fun x h => List.lt_irrefl x h
  have asy : ∀ x y : List Nat, x < y → ¬ (y < x) := fun x y h k => irr _ (List.lt_trans h k)
  have hm : r ∈ rows R day a b := by
    refine List.mem_filter.mpr ⟨hr, ?_⟩
    have lt := ok.lt
    unfold minS maxS
    rcases hp with ⟨rfl, rfl⟩ | ⟨rfl, rfl⟩
    · rw [if_neg (asy _ _ lt), if_pos lt]
      simp [hd]
    · rw [if_pos lt, if_neg (asy _ _ lt)]
      simp [hd]
  unfold rateAt
  rw [if_neg hab]
  cases hl : (rows R day a b).getLast? with
  | none =>
    rw [List.getLast?_eq_none_iff.mp hl] at hm
    cases hm
  | some c => rfl
theorem near_r (R : RulesT) (hR : RulesOk R) (day : Int) (a : Str) : ∃ xs : List Str, callD (FN lw) (n + 3) 53 [.v R.enc, .v (.int day), .v (.str a)] = some (.lst (xs.map .str), [.v R.enc, .v (.int day), .v (.str a)]) ∧ xs.length ≤ (codes R).length ∧ ∀ x ∈ xs, x ∈ codes R ∧ a ≠ x ∧ (rateAt R day a x).isSome := by
  have c1 := names_r (lw := lw) (n + 1) R
  have c2 := fun b => l_rate_r (lw := lw) n R hR day a b
  generalize R.enc = re at c1 c2 ⊢
  obtain ⟨ys, r', e, q, u, _, rfl, _, xs, rfl, hlen, hx⟩ := lcLoop_inv (f := lcF (callD (FN lw) (n + 2)) [3] (.nm 3) (.nm 3) [(.and (.cmp .ne (.nm 3) (.nm 2)) (.cmp .isn (.cal 52 [(.nm 0), (.nm 1), (.nm 2), (.nm 3)] [] []) (.cst .none)))])
    (fun ds ys r => ∃ cs : List Str, ∃ u, ds = cs.map PyData.str ∧ r = [some (.v re), some (.v (.int day)), some (.v (.str a)), u] ∧ (∀ c ∈ cs, c ∈ codes R) ∧ ∃ xs : List Str, ys = xs.map PyData.str ∧ xs.length + cs.length ≤ (codes R).length ∧ ∀ x ∈ xs, x ∈ codes R ∧ a ≠ x ∧ (rateAt R day a x).isSome) ((codes R).map PyData.str) [] [some (.v re), some (.v (.int day)), some (.v (.str a)), none]
    ⟨codes R, none, rfl, rfl, fun _ h => h, [], rfl, by simp, fun _ h => by cases h⟩ (fun d ds ys r ⟨cs, u, ed, er, hc, xs, ey, hlen, hx⟩ => by
      subst er ey
      cases cs with
      | nil => cases ed
      | cons c cs =>
        rw [List.map_cons] at ed
        obtain ⟨rfl, rfl⟩ := List.cons.inj ed
        rw [List.length_cons] at hlen
        have hcm := hc c List.mem_cons_self
        have rest : ∀ r ∈ cs, r ∈ codes R := fun r hr => hc r (List.mem_cons_of_mem _ hr)
        obtain ⟨d, e2, hd⟩ := c2 c
        by_cases hca : c = a
        · refine ⟨none, [some (.v re), some (.v (.int day)), some (.v (.str a)), some (.v (.str c))], ?_, cs, _, rfl, rfl, rest, xs, by simp, by omega, hx⟩
          unfold lcF
          one_item
          rw [decide_eq_true hca]
          one_item
        · cases hn : isNn d with
          | true =>
            refine ⟨none, [some (.v re), some (.v (.int day)), some (.v (.str a)), some (.v (.str c))], ?_, cs, _, rfl, rfl, rest, xs, by simp, by omega, hx⟩
            unfold lcF
            one_item
            rw [decide_eq_false hca]
            one_item
            rw [e2]
            one_item
            rw [hn]
            one_item
          | false =>
            refine ⟨some (.str c), [some (.v re), some (.v (.int day)), some (.v (.str a)), some (.v (.str c))], ?_, cs, _, rfl, rfl, rest, xs ++ [c], by simp, by rw [List.length_append, List.length_singleton]; omega, fun x hm => ?_⟩
            · unfold lcF
              one_item
              rw [decide_eq_false hca]
              one_item
              rw [e2]
              one_item
              rw [hn]
              one_item
            · rcases List.mem_append.mp hm with hm | hm
              · exact hx x hm
              · rw [List.mem_singleton.mp hm]
                have hac : a ≠ c := fun z => hca z.symm
                exact ⟨hcm, hac, hits_rate hR hac ((hd hn).resolve_left hac)⟩)
  refine ⟨xs, ?_, by omega, hx⟩
  rw [callS (fd := Lib.b_l_near) rfl]
  unfold Lib.b_l_near
  one_item
  rw [lc_run (xs := (codes R).map PyData.str) (r1 := [some (.v re), some (.v (.int day)), some (.v (.str a)), none]) (by
    one_item
    rw [c1]
    one_item) e]
  one_item
end
end Mp
end

/-! ## L4 -/
section
set_option linter.all false
set_option maxRecDepth 100000
namespace Mp
open PySem
local macro_rules | `(tactic| one_item) => `(tactic| simp (config := { decide := false }) only [↓bnd_p, bnd_s, bnd_n, runF_e, endF_nx, endF_rt, exs_c, exs_n, seqF_nx, seqF_rt, seqF_bk, seqF_ct, ex.eq_1, ex.eq_2, ex.eq_3, ex.eq_4, ex.eq_5, ex.eq_6, ex.eq_7, ex.eq_8, ex.eq_9, ex.eq_10, ex.eq_11, ex.eq_12, ex.eq_15, ex.eq_16, ex.eq_17, ex.eq_18, ev.eq_1, ev.eq_2, ev.eq_3, ev.eq_4, ev.eq_5, ev.eq_6, ev.eq_7, ev.eq_8, ev.eq_9, ev.eq_10, ev.eq_11, ev.eq_12, ev.eq_13, ev.eq_14, ev.eq_15, ev.eq_16, ev.eq_17, ev.eq_18, ev.eq_19, ev.eq_20, ev.eq_23, ev.eq_24, ev.eq_25, ev.eq_26, ev.eq_27, evs, evas, evac, evc, evo, evod, evit.eq_1, evit.eq_3, evit.eq_4, evit.eq_5, evit.eq_6, evit.eq_7, evOs, arB_cst, arC_cst, arB_bin, arC_bin, arB_neg, arC_neg, arB_not, arC_not, arB_cmp, arC_cmp, arB_chn, arC_chn, arB_and, arC_and, arB_or, arC_or, arB_ife, arC_ife, arB_tup, arC_tup, arB_lst, arC_lst, arB_dct, arC_dct, arB_idx, arC_idx, arB_slc, arC_slc, arB_stp, arC_stp, arB_cal, arC_cal, arB_blt, arC_blt, arB_mth, arC_mth, arB_isi, arC_isi, arB_lc, arC_lc, arB_dc, arC_dc, arB_pop, arC_pop, arB_app, arC_app, arB_ext, arC_ext, arB_upd, arC_upd, arB_fst, arC_fst, arB_n, arC_n, arN_s, rdA_v, rdA_s, rdAs, hand, ownSl, putB, nodO, isLst, selK, binO, cmpO, ownIx, outs, pairUp_n, pairUp_s, mrg_n, isOwn_v, isOwn_l, isOwn_d, isOO_v, isOO_l, isOO_d, isO_n, isO_b, isNn_n, isNn_i, isNn_b, isNn_s, isNn_t, isNn_l, notB, leO_i, geO_i, ltO_i, gtO_i, eqO, intsO_i, addO_i, addO_t, addO_l, mulO_i, bolO_b, intO_i, isiD, idxO_t, idxO_l, idxO_vl, dctO_d, dctO_v, seqD_l, seqD_t, seqD_vl, lstO_l, lstO_vl, tupO_t, blO, one_e, two_e, absO_i, intB_i, intB_b, onInts_l, onBools_l, min2_i, max2_i, len_t, len_l, len_vl, len_s, setO_l, ixSet_e, List.set_cons_zero, List.set_cons_succ, asgT_n, asgT_t, asgTs_n, asgTs_c, tgOk_n, tgOk_t, tgsOk_n, tgsOk_c, setOs, wipe, back, slcO_t, slcO_vl, slcO_l, itO_l, itO_vl, itO_t, frA, d_v, d_l, d_d, at_z, at_s, set_z, set_s, ixI_0, ixI_1, ixI_2, ixI_3, ixI_4, eqP_i, eqP_s, nc, List.length_cons, List.length_nil, List.map_cons, List.map_nil, List.cons_append, List.nil_append, List.append_nil, rep_s, rep_z, all_rep, Nat.reduceAdd, Nat.reduceSub, Nat.reduceEqDiff, List.getElem?_cons_zero, List.getElem?_cons_succ, ↓Option.bind_eq_bind, Option.bind_some, Option.bind_none, Option.map_some, Option.map_none, Option.pure_def, if_true, if_false, ite_true, ite_false, reduceIte, Bool.not_true, Bool.not_false, Bool.false_eq_true, List.any_cons, List.any_nil, List.contains_cons, List.contains_nil, Bool.or_false, Bool.false_or, Bool.or_self, Bool.and_true, Bool.true_and, Bool.and_self, Bool.and_false, Bool.false_and, Bool.or_true, Bool.true_or, List.nodup_nil, List.nodup_cons, List.mem_cons, List.not_mem_nil, or_false, or_self, not_false_eq_true, and_true, and_self, Nat.reduceEqDiff, Nat.succ_ne_zero, Nat.zero_ne_one, Nat.one_ne_zero, beq_self_eq_true, Nat.reduceBEq, Int.reduceMul, Int.reduceNeg, decide_true, decide_false, Int.reduceLT, Int.reduceLE, Int.reduceEq, Int.ofNat_eq_natCast])
local macro_rules | `(tactic| one_place) => `(tactic| simp (config := { decide := false }) only [↓bnd_p, bnd_s, bnd_n, runF_e, endF_nx, endF_rt, exs_c, exs_n, seqF_nx, seqF_rt, seqF_bk, seqF_ct, ex.eq_1, ex.eq_2, ex.eq_3, ex.eq_4, ex.eq_5, ex.eq_6, ex.eq_7, ex.eq_8, ex.eq_9, ex.eq_10, ex.eq_11, ex.eq_12, ex.eq_15, ex.eq_16, ex.eq_17, ex.eq_18, ev.eq_1, ev.eq_2, ev.eq_3, ev.eq_4, ev.eq_5, ev.eq_6, ev.eq_7, ev.eq_8, ev.eq_9, ev.eq_10, ev.eq_11, ev.eq_12, ev.eq_13, ev.eq_14, ev.eq_15, ev.eq_16, ev.eq_17, ev.eq_18, ev.eq_19, ev.eq_20, ev.eq_23, ev.eq_24, ev.eq_25, ev.eq_26, ev.eq_27, evs, evas, evac, evc, evo, evod, evit.eq_1, evit.eq_3, evit.eq_4, evit.eq_5, evit.eq_6, evit.eq_7, evOs, arB_cst, arC_cst, arB_bin, arC_bin, arB_neg, arC_neg, arB_not, arC_not, arB_cmp, arC_cmp, arB_chn, arC_chn, arB_and, arC_and, arB_or, arC_or, arB_ife, arC_ife, arB_tup, arC_tup, arB_lst, arC_lst, arB_dct, arC_dct, arB_idx, arC_idx, arB_slc, arC_slc, arB_stp, arC_stp, arB_cal, arC_cal, arB_blt, arC_blt, arB_mth, arC_mth, arB_isi, arC_isi, arB_lc, arC_lc, arB_dc, arC_dc, arB_pop, arC_pop, arB_app, arC_app, arB_ext, arC_ext, arB_upd, arC_upd, arB_fst, arC_fst, arB_n, arC_n, arN_s, rdA_v, rdA_s, rdAs, hand, ownSl, putB, nodO, isLst, selK, binO, cmpO, ownIx, outs, pairUp_n, pairUp_s, mrg_n, isOwn_v, isOwn_l, isOwn_d, isOO_v, isOO_l, isOO_d, isO_n, isO_b, isNn_n, isNn_i, isNn_b, isNn_s, isNn_t, isNn_l, notB, leO_i, geO_i, ltO_i, gtO_i, eqO, intsO_i, addO_i, addO_t, addO_l, mulO_i, bolO_b, intO_i, isiD, idxO_t, idxO_l, idxO_vl, dctO_d, dctO_v, seqD_l, seqD_t, seqD_vl, lstO_l, lstO_vl, tupO_t, blO, one_e, two_e, absO_i, intB_i, intB_b, onInts_l, onBools_l, min2_i, max2_i, len_t, len_l, len_vl, len_s, setO_l, ixSet_e, List.set_cons_zero, List.set_cons_succ, asgT_n, asgT_t, asgTs_n, asgTs_c, tgOk_n, tgOk_t, tgsOk_n, tgsOk_c, setOs, wipe, back, slcO_t, slcO_vl, slcO_l, itO_l, itO_vl, itO_t, frA, d_v, d_l, d_d, at_z, at_s, set_z, set_s, ixI_0, ixI_1, ixI_2, ixI_3, ixI_4, eqP_i, eqP_s, nc, List.length_cons, List.length_nil, List.map_cons, List.map_nil, List.cons_append, List.nil_append, List.append_nil, rep_s, rep_z, all_rep, Nat.reduceAdd, Nat.reduceSub, Nat.reduceEqDiff, List.getElem?_cons_zero, List.getElem?_cons_succ, ↓Option.bind_eq_bind, Option.bind_some, Option.bind_none, Option.map_some, Option.map_none, Option.pure_def, if_true, if_false, ite_true, ite_false, reduceIte, Bool.not_true, Bool.not_false, Bool.false_eq_true, List.any_cons, List.any_nil, List.contains_cons, List.contains_nil, Bool.or_false, Bool.false_or, Bool.or_self, Bool.and_true, Bool.true_and, Bool.and_self, Bool.and_false, Bool.false_and, Bool.or_true, Bool.true_or, List.nodup_nil, List.nodup_cons, List.mem_cons, List.not_mem_nil, or_false, or_self, not_false_eq_true, and_true, and_self, Nat.reduceEqDiff, Nat.succ_ne_zero, Nat.zero_ne_one, Nat.one_ne_zero, beq_self_eq_true, Nat.reduceBEq, Int.reduceMul, Int.reduceNeg, decide_true, decide_false, Int.reduceLT, Int.reduceLE, Int.reduceEq, Int.ofNat_eq_natCast, *])
/-! ### sorted keys rise -/
/-- keys of one kind, told apart by their order -/
structure KeyKd (Kd : D → Prop) : Prop where
  alike : ∀ a b, Kd a → Kd b → PySem.W.alike a b = true
  inj : ∀ a b, Kd a → Kd b → PySem.W.keyToks a = PySem.W.keyToks b → a = b
  hd : ∀ a, Kd a → headed a = true
  pl : ∀ a, Kd a → Pl 2 a
  lt : ∀ a b, Kd a → Kd b → PySem.W.dataLt a b = true → ltO a b = some true
theorem le_total (a b c : D) : (PySem.W.dataLe false id a b = true → PySem.W.dataLe false id b c = true → PySem.W.dataLe false id a c = true) := fun h1 h2 => (PySem.W.sortLe_total (PyProof.Rows.listOrd PyProof.Rows.itemOrd) false fun b : D => PySem.W.keyToks (id b)).trans a b c h1 h2
theorem ris_of : ∀ {zs : List D}, (∀ i x y, zs[i]? = some x → zs[i + 1]? = some y → ltO x y = some true) → Ris zs
  | [], _ => trivial
  | [_], _ => trivial
  | x :: y :: r, h => ⟨h 0 x y rfl rfl, ris_of fun i a b h1 h2 => h (i + 1) a b h1 h2⟩
theorem sort_ok {Kd : D → Prop} (K : KeyKd Kd) {zs : List D} (h : ∀ z ∈ zs, Kd z) (nd : zs.Nodup) : ∃ ys, sortD zs = some ys ∧ ys.Perm zs ∧ Ris ys := by
  have pm := List.mergeSort_perm zs (PySem.W.dataLe false id)
  refine ⟨zs.mergeSort (PySem.W.dataLe false id), ?_, pm, ris_of fun i x y h1 h2 => ?_⟩
  · unfold sortD
    rw [if_pos]
    have a1 : allAlike zs = true := List.all_eq_true.mpr fun x hx => List.all_eq_true.mpr fun y hy => K.alike x y (h x hx) (h y hy)
    have a2 : zs.all headed = true := List.all_eq_true.mpr fun x hx => K.hd x (h x hx)
    have a3 : zs.all okE = true := List.all_eq_true.mpr fun x hx => decide_eq_true (Nat.le_trans (K.pl x (h x hx)).dep (by decide))
    have a4 : noDictAll zs = true := (Pl.all fun x hx => K.pl x (h x hx)).2
    rw [a1, a2, a3, a4]
    rfl
  · have T := PySem.W.sortLe_total (PyProof.Rows.listOrd PyProof.Rows.itemOrd) false fun b : D => PySem.W.keyToks (id b)
    have pw : (zs.mergeSort (PySem.W.dataLe false id)).Pairwise fun a b => PySem.W.dataLe false id a b = true := List.pairwise_mergeSort (fun a b c => T.trans a b c) (fun a b => Bool.or_eq_true_iff.mpr (T.total a b)) zs
    have nd2 : (zs.mergeSort (PySem.W.dataLe false id)).Nodup := pm.nodup_iff.mpr nd
    obtain ⟨l1, rfl⟩ := List.getElem?_eq_some_iff.mp h1
    obtain ⟨l2, rfl⟩ := List.getElem?_eq_some_iff.mp h2
    have le := List.pairwise_iff_getElem.mp pw i (i + 1) l1 l2 (Nat.lt_succ_self i)
    have ne := List.pairwise_iff_getElem.mp nd2 i (i + 1) l1 l2 (Nat.lt_succ_self i)
    have m1 := h _ (pm.mem_iff.mp (List.getElem_mem l1))
    have m2 := h _ (pm.mem_iff.mp (List.getElem_mem l2))
    refine K.lt _ _ m1 m2 ?_
    have le1 : (!PySem.W.dataLt (zs.mergeSort (PySem.W.dataLe false id))[i + 1] (zs.mergeSort (PySem.W.dataLe false id))[i]) = true := le
    have le' : PySem.W.dataLt (zs.mergeSort (PySem.W.dataLe false id))[i + 1] (zs.mergeSort (PySem.W.dataLe false id))[i] = false := by
      simpa using le1
    cases q : PySem.W.dataLt (zs.mergeSort (PySem.W.dataLe false id))[i] (zs.mergeSort (PySem.W.dataLe false id))[i + 1] with
    | true => rfl
    | false => exact absurd (K.inj _ _ m1 m2 ((PyProof.Rows.listOrd PyProof.Rows.itemOrd).total _ _ q le')) ne
theorem ltO_tt {xs ys : List D} : ltO (.tuple xs) (.tuple ys) = if (PySem.W.alike (.tuple xs) (.tuple ys) && ((okE (.tuple xs) && okE (.tuple ys)) && (noDictAll xs && noDictAll ys))) = true then some (PySem.W.dataLt (.tuple xs) (.tuple ys)) else none := rfl
def Key3 (z : D) : Prop := ∃ a b d, z = .tuple [.str a, .str b, .int d]
theorem str_eta {x y : Str} (h : x.cps.toList = y.cps.toList) : x = y := PySem.W.str_of_cps h
theorem key3 : KeyKd Key3 where
  alike := fun a b ⟨_, _, _, e1⟩ ⟨_, _, _, e2⟩ => by
    subst e1 e2
    rfl
  inj := fun a b ⟨x, y, d, e1⟩ ⟨x', y', d', e2⟩ h => by
    subst e1 e2
    have h' : ([.inl 1, .inr x.cps.toList, .inl 1, .inr y.cps.toList, .inl 1, .inl d, .inl 0] : List (Int ⊕ List Nat)) = [.inl 1, .inr x'.cps.toList, .inl 1, .inr y'.cps.toList, .inl 1, .inl d', .inl 0] := h
    simp only [List.cons.injEq, Sum.inl.injEq, Sum.inr.injEq, true_and, and_true] at h'
    rw [str_eta h'.1, str_eta h'.2.1, h'.2.2]
  hd := fun a ⟨_, _, _, e⟩ => by
    subst e
    rfl
  pl := fun a ⟨_, _, _, e⟩ => by
    subst e
    exact (Pl.tup (.cons .str (.cons .str (.cons .int .nil)))).up (by decide)
  lt := fun a b ⟨_, _, _, e1⟩ ⟨_, _, _, e2⟩ h => by
    subst e1 e2
    rw [ltO_tt, if_pos (by rfl), h]
section
variable {lw : List Fd} (n : Nat)
/-! ### a way -/
structure TripOk (R : RulesT) (day : Int) (trip : List Str) : Prop where
  ne : trip ≠ []
  mem : ∀ c ∈ trip, c ∈ codes R
  rat : ∀ p ∈ pairs trip, p.1 ≠ p.2 ∧ (rateAt R day p.1 p.2).isSome
theorem pairs_snoc : ∀ (t : List Str) (x : Str), (∀ p ∈ pairs (t ++ [x]), p ∈ pairs t ∨ ∃ l, t.getLast? = some l ∧ p = (l, x))
  | [], x, p, h => by cases h
  | [a], x, p, h => by
    have h : p ∈ [(a, x)] := h
    rw [List.mem_singleton] at h
    exact .inr ⟨a, rfl, h⟩
  | a :: b :: r, x, p, h => by
    have h : p ∈ (a, b) :: pairs ((b :: r) ++ [x]) := h
    rcases List.mem_cons.mp h with rfl | h
    · exact .inl List.mem_cons_self
    · rcases pairs_snoc (b :: r) x p h with h | ⟨l, h1, h2⟩
      · exact .inl (List.mem_cons_of_mem _ h)
      · exact .inr ⟨l, by rw [List.getLast?_cons_cons]; exact h1, h2⟩
theorem way_r (R : RulesT) (hR : RulesOk R) (day : Int) {st : List D} (h : StOk st) : ∃ trip st', callD (FN lw) (n + 4) 54 [.lst st, .v R.enc, .v (.int day), .v (.int 5)] = some (.v (.tuple (trip.map .str)), [.lst st', .v R.enc, .v (.int day), .v (.int 5)]) ∧ (TripOk R day trip ∧ trip.length ≤ 6) ∧ StOk st' := by
  have c1 := names_r (lw := lw) (n + 2) R
  have c2 := fun a => near_r (lw := lw) n R hR day a
  generalize R.enc = re at c1 c2 ⊢
  have hc0 : 0 < (codes R).length := by unfold codes; rw [List.length_map]; have := hR.curN; omega
  have hc5 : (codes R).length ≤ 5 := by unfold codes; rw [List.length_map]; have := hR.curN; omega
  obtain ⟨j, st1, e1, j0, j1, h1⟩ := take_i (lw := lw) (n + 2) h ((codes R).length : Int) (by omega) (Bd.of64 (by omega) (by omega))
  obtain ⟨k, y, q1, q2, hm⟩ := pick (m := (codes R).length) ((codes R).map PyData.str) (List.length_map _) j0 j1
  obtain ⟨c0, hc, rfl⟩ := List.mem_map.mp hm
  obtain ⟨t, st2, e2, t0, t1, h2⟩ := take_i (lw := lw) (n + 2) h1 5 (by decide) (by unfold Bd; decide)
  obtain ⟨r', e, st3, trip, u6, u7, rfl, h3, ht, hl⟩ := forLoop_inv (f := forF (callD (FN lw) (n + 3)) [0] (.nm 6) [(.asg (.nm 7) (.cal 53 [(.nm 1), (.nm 2), (.idx (.nm 5) (.neg (.cst (.int 1))))] [] [])), (.iff (.cmp .ne (.nm 7) (.lst [])) [(.exp (.app 5 (.idx (.nm 7) (.cal 42 [(.nm 0), (.blt .len [(.nm 7)])] [] []))))] [])])
    (fun xs r => ∃ st, ∃ trip : List Str, ∃ u6 u7, r = [some (.lst st), some (.v re), some (.v (.int day)), some (.v (.int 5)), some (.lst ((codes R).map .str)), some (.lst (trip.map .str)), u6, u7] ∧ StOk st ∧ TripOk R day trip ∧ trip.length + xs.length ≤ 6) (rngD 0 (1 + t))
    [some (.lst st2), some (.v re), some (.v (.int day)), some (.v (.int 5)), some (.lst ((codes R).map .str)), some (.lst ([c0].map .str)), none, none] ⟨st2, [c0], none, none, rfl, h2, ⟨by simp, fun c h => by rw [List.mem_singleton.mp h]; exact hc, fun p h => by cases h⟩, by rw [rngD_len, List.length_singleton]; omega⟩ (fun x xs r ⟨st, trip, u6, u7, e, hs, ht, hl⟩ => by
      subst e
      rw [List.length_cons] at hl
      obtain ⟨lst, hlast⟩ : ∃ l, trip.getLast? = some l := by
        cases q : trip.getLast? with
        | none => exact absurd (List.getLast?_eq_none_iff.mp q) ht.ne
        | some l => exact ⟨l, rfl⟩
      have hx : (trip.map PyData.str).getLast? = some (.str lst) := by
        rw [List.getLast?_map, hlast]
        rfl
      obtain ⟨ys, e3, hyl, hy⟩ := c2 lst
      have li := last_ix hx
      have lg := last_get hx
      unfold forF
      one_item
      rw [li]
      one_item
      rw [lg]
      one_item
      rw [e3]
      one_item
      rw [eqP_nil (k := 0) (.map fun c => .str) (by decide)]
      cases ys with
      | nil =>
        one_item
        exact ⟨_, rfl, st, trip, _, _, rfl, hs, ht, by omega⟩
      | cons y ys =>
        obtain ⟨j, st4, e4, j0, j1, h4⟩ := take_i (lw := lw) (n + 2) hs (((y :: ys).map PyData.str).length : Int) (by rw [List.length_map, List.length_cons]; omega) (Bd.of64 (by omega) (by rw [List.length_map]; omega))
        obtain ⟨k, z, p1, p2, hm⟩ := pick (m := ((y :: ys).map PyData.str).length) ((y :: ys).map PyData.str) rfl j0 j1
        obtain ⟨w, hw, rfl⟩ := List.mem_map.mp hm
        obtain ⟨w1, w2, w3⟩ := hy w hw
        generalize hyy : (y :: ys).map PyData.str = yy at *
        have hne : yy.isEmpty = false := by rw [← hyy]; rfl
        have ls : (trip.map PyData.str).length < SZ := by rw [List.length_map]; exact Nat.lt_of_lt_of_le (by omega : trip.length < 10) (by decide)
        rw [hne]
        one_item
        rw [e4]
        one_item
        rw [p1]
        one_item
        rw [p2]
        one_item
        rw [if_pos ls]
        one_item
        refine ⟨_, rfl, st4, trip ++ [w], _, _, by rw [List.map_append]; rfl, h4, ⟨by simp, fun c hc => ?_, fun p hp => ?_⟩, by rw [List.length_append, List.length_singleton]; omega⟩
        · rcases List.mem_append.mp hc with hc | hc
          · exact ht.mem c hc
          · rw [List.mem_singleton.mp hc]
            exact w1
        · rcases pairs_snoc trip w p hp with hp | ⟨l, q1, rfl⟩
          · exact ht.rat p hp
          · rw [hlast] at q1
            cases q1
            exact ⟨w2, w3⟩)
  refine ⟨trip, st3, ?_, ⟨ht, by simpa using hl⟩, h3⟩
  rw [callS (fd := Lib.b_l_way) rfl]
  unfold Lib.b_l_way
  one_item
  rw [c1]
  one_item
  rw [List.length_map, e1]
  one_item
  rw [List.length_map, q1]
  one_item
  rw [q2]
  one_item
  rw [for_run (evit_rng (i := 0) (j := 1 + t) (r1 := [some (.lst st1), some (.v re), some (.v (.int day)), some (.v (.int 5)), some (.lst ((codes R).map .str)), some (.lst ([c0].map .str)), none, none]) (r2 := [some (.lst st2), some (.v re), some (.v (.int day)), some (.v (.int 5)), some (.lst ((codes R).map .str)), some (.lst ([c0].map .str)), none, none]) (by one_item) (by
    one_item
    rw [e2]
    one_item) (by decide) (by omega)) (by one_item) e]
  one_item
end
end Mp
end

/-! ## L5 -/
section
set_option linter.all false
set_option maxRecDepth 100000
namespace Mp
open PySem
local macro_rules | `(tactic| one_item) => `(tactic| simp (config := { decide := false }) only [↓bnd_p, bnd_s, bnd_n, runF_e, endF_nx, endF_rt, exs_c, exs_n, seqF_nx, seqF_rt, seqF_bk, seqF_ct, ex.eq_1, ex.eq_2, ex.eq_3, ex.eq_4, ex.eq_5, ex.eq_6, ex.eq_7, ex.eq_8, ex.eq_9, ex.eq_10, ex.eq_11, ex.eq_12, ex.eq_15, ex.eq_16, ex.eq_17, ex.eq_18, ev.eq_1, ev.eq_2, ev.eq_3, ev.eq_4, ev.eq_5, ev.eq_6, ev.eq_7, ev.eq_8, ev.eq_9, ev.eq_10, ev.eq_11, ev.eq_12, ev.eq_13, ev.eq_14, ev.eq_15, ev.eq_16, ev.eq_17, ev.eq_18, ev.eq_19, ev.eq_20, ev.eq_23, ev.eq_24, ev.eq_25, ev.eq_26, ev.eq_27, evs, evas, evac, evc, evo, evod, evit.eq_1, evit.eq_3, evit.eq_4, evit.eq_5, evit.eq_6, evit.eq_7, evOs, arB_cst, arC_cst, arB_bin, arC_bin, arB_neg, arC_neg, arB_not, arC_not, arB_cmp, arC_cmp, arB_chn, arC_chn, arB_and, arC_and, arB_or, arC_or, arB_ife, arC_ife, arB_tup, arC_tup, arB_lst, arC_lst, arB_dct, arC_dct, arB_idx, arC_idx, arB_slc, arC_slc, arB_stp, arC_stp, arB_cal, arC_cal, arB_blt, arC_blt, arB_mth, arC_mth, arB_isi, arC_isi, arB_lc, arC_lc, arB_dc, arC_dc, arB_pop, arC_pop, arB_app, arC_app, arB_ext, arC_ext, arB_upd, arC_upd, arB_fst, arC_fst, arB_n, arC_n, arN_s, rdA_v, rdA_s, rdAs, hand, ownSl, putB, nodO, isLst, selK, binO, cmpO, ownIx, outs, pairUp_n, pairUp_s, mrg_n, isOwn_v, isOwn_l, isOwn_d, isOO_v, isOO_l, isOO_d, isO_n, isO_b, isNn_n, isNn_i, isNn_b, isNn_s, isNn_t, isNn_l, notB, leO_i, geO_i, ltO_i, gtO_i, eqO, intsO_i, addO_i, addO_t, addO_l, mulO_i, bolO_b, intO_i, isiD, idxO_t, idxO_l, idxO_vl, dctO_d, dctO_v, seqD_l, seqD_t, seqD_vl, lstO_l, lstO_vl, tupO_t, blO, one_e, two_e, absO_i, intB_i, intB_b, onInts_l, onBools_l, min2_i, max2_i, len_t, len_l, len_vl, len_s, setO_l, ixSet_e, List.set_cons_zero, List.set_cons_succ, asgT_n, asgT_t, asgTs_n, asgTs_c, tgOk_n, tgOk_t, tgsOk_n, tgsOk_c, setOs, wipe, back, slcO_t, slcO_vl, slcO_l, itO_l, itO_vl, itO_t, frA, d_v, d_l, d_d, at_z, at_s, set_z, set_s, ixI_0, ixI_1, ixI_2, ixI_3, ixI_4, eqP_i, eqP_s, nc, List.length_cons, List.length_nil, List.map_cons, List.map_nil, List.cons_append, List.nil_append, List.append_nil, rep_s, rep_z, all_rep, Nat.reduceAdd, Nat.reduceSub, Nat.reduceEqDiff, List.getElem?_cons_zero, List.getElem?_cons_succ, ↓Option.bind_eq_bind, Option.bind_some, Option.bind_none, Option.map_some, Option.map_none, Option.pure_def, if_true, if_false, ite_true, ite_false, reduceIte, Bool.not_true, Bool.not_false, Bool.false_eq_true, List.any_cons, List.any_nil, List.contains_cons, List.contains_nil, Bool.or_false, Bool.false_or, Bool.or_self, Bool.and_true, Bool.true_and, Bool.and_self, Bool.and_false, Bool.false_and, Bool.or_true, Bool.true_or, List.nodup_nil, List.nodup_cons, List.mem_cons, List.not_mem_nil, or_false, or_self, not_false_eq_true, and_true, and_self, Nat.reduceEqDiff, Nat.succ_ne_zero, Nat.zero_ne_one, Nat.one_ne_zero, beq_self_eq_true, Nat.reduceBEq, Int.reduceMul, Int.reduceNeg, decide_true, decide_false, Int.reduceLT, Int.reduceLE, Int.reduceEq, Int.ofNat_eq_natCast])
local macro_rules | `(tactic| one_place) => `(tactic| simp (config := { decide := false }) only [↓bnd_p, bnd_s, bnd_n, runF_e, endF_nx, endF_rt, exs_c, exs_n, seqF_nx, seqF_rt, seqF_bk, seqF_ct, ex.eq_1, ex.eq_2, ex.eq_3, ex.eq_4, ex.eq_5, ex.eq_6, ex.eq_7, ex.eq_8, ex.eq_9, ex.eq_10, ex.eq_11, ex.eq_12, ex.eq_15, ex.eq_16, ex.eq_17, ex.eq_18, ev.eq_1, ev.eq_2, ev.eq_3, ev.eq_4, ev.eq_5, ev.eq_6, ev.eq_7, ev.eq_8, ev.eq_9, ev.eq_10, ev.eq_11, ev.eq_12, ev.eq_13, ev.eq_14, ev.eq_15, ev.eq_16, ev.eq_17, ev.eq_18, ev.eq_19, ev.eq_20, ev.eq_23, ev.eq_24, ev.eq_25, ev.eq_26, ev.eq_27, evs, evas, evac, evc, evo, evod, evit.eq_1, evit.eq_3, evit.eq_4, evit.eq_5, evit.eq_6, evit.eq_7, evOs, arB_cst, arC_cst, arB_bin, arC_bin, arB_neg, arC_neg, arB_not, arC_not, arB_cmp, arC_cmp, arB_chn, arC_chn, arB_and, arC_and, arB_or, arC_or, arB_ife, arC_ife, arB_tup, arC_tup, arB_lst, arC_lst, arB_dct, arC_dct, arB_idx, arC_idx, arB_slc, arC_slc, arB_stp, arC_stp, arB_cal, arC_cal, arB_blt, arC_blt, arB_mth, arC_mth, arB_isi, arC_isi, arB_lc, arC_lc, arB_dc, arC_dc, arB_pop, arC_pop, arB_app, arC_app, arB_ext, arC_ext, arB_upd, arC_upd, arB_fst, arC_fst, arB_n, arC_n, arN_s, rdA_v, rdA_s, rdAs, hand, ownSl, putB, nodO, isLst, selK, binO, cmpO, ownIx, outs, pairUp_n, pairUp_s, mrg_n, isOwn_v, isOwn_l, isOwn_d, isOO_v, isOO_l, isOO_d, isO_n, isO_b, isNn_n, isNn_i, isNn_b, isNn_s, isNn_t, isNn_l, notB, leO_i, geO_i, ltO_i, gtO_i, eqO, intsO_i, addO_i, addO_t, addO_l, mulO_i, bolO_b, intO_i, isiD, idxO_t, idxO_l, idxO_vl, dctO_d, dctO_v, seqD_l, seqD_t, seqD_vl, lstO_l, lstO_vl, tupO_t, blO, one_e, two_e, absO_i, intB_i, intB_b, onInts_l, onBools_l, min2_i, max2_i, len_t, len_l, len_vl, len_s, setO_l, ixSet_e, List.set_cons_zero, List.set_cons_succ, asgT_n, asgT_t, asgTs_n, asgTs_c, tgOk_n, tgOk_t, tgsOk_n, tgsOk_c, setOs, wipe, back, slcO_t, slcO_vl, slcO_l, itO_l, itO_vl, itO_t, frA, d_v, d_l, d_d, at_z, at_s, set_z, set_s, ixI_0, ixI_1, ixI_2, ixI_3, ixI_4, eqP_i, eqP_s, nc, List.length_cons, List.length_nil, List.map_cons, List.map_nil, List.cons_append, List.nil_append, List.append_nil, rep_s, rep_z, all_rep, Nat.reduceAdd, Nat.reduceSub, Nat.reduceEqDiff, List.getElem?_cons_zero, List.getElem?_cons_succ, ↓Option.bind_eq_bind, Option.bind_some, Option.bind_none, Option.map_some, Option.map_none, Option.pure_def, if_true, if_false, ite_true, ite_false, reduceIte, Bool.not_true, Bool.not_false, Bool.false_eq_true, List.any_cons, List.any_nil, List.contains_cons, List.contains_nil, Bool.or_false, Bool.false_or, Bool.or_self, Bool.and_true, Bool.true_and, Bool.and_self, Bool.and_false, Bool.false_and, Bool.or_true, Bool.true_or, List.nodup_nil, List.nodup_cons, List.mem_cons, List.not_mem_nil, or_false, or_self, not_false_eq_true, and_true, and_self, Nat.reduceEqDiff, Nat.succ_ne_zero, Nat.zero_ne_one, Nat.one_ne_zero, beq_self_eq_true, Nat.reduceBEq, Int.reduceMul, Int.reduceNeg, decide_true, decide_false, Int.reduceLT, Int.reduceLE, Int.reduceEq, Int.ofNat_eq_natCast, *])
/-! ### a dict of rates -/
abbrev KyT := Str × Str × Int
abbrev KvT := KyT × (Int × Int)
def encK (k : KyT) : D := .tuple [.str k.1, .str k.2.1, .int k.2.2]
def encV (v : Int × Int) : D := .tuple [.int v.1, .int v.2]
def encKV (p : KvT) : D × D := (encK p.1, encV p.2)
def ltS (a b : Str) : Prop := a.cps.toList < b.cps.toList
structure KvOk (cs : List Str) (p : KvT) : Prop where
  a : p.1.1 ∈ cs
  b : p.1.2.1 ∈ cs
  lt : ltS p.1.1 p.1.2.1
  d : 0 ≤ p.1.2.2 ∧ p.1.2.2 ≤ 9999
  t : 1 ≤ p.2.1 ∧ p.2.1 ≤ 100000
  m : 1 ≤ p.2.2 ∧ p.2.2 ≤ 100000
structure DcOk (cs : List Str) (kvs : List KvT) : Prop where
  ok : ∀ p ∈ kvs, KvOk cs p
  nd : (kvs.map (·.1)).Nodup
theorem eqv_K (k l : KyT) : PyData.eqv (encK k) (encK l) = decide (k = l) := by
  show ((k.1 == l.1) && ((k.2.1 == l.2.1) && ((k.2.2 == l.2.2) && true))) = _
  obtain ⟨a, b, d⟩ := k
  obtain ⟨a', b', d'⟩ := l
  rw [Bool.and_true, Bool.eq_iff_iff]
  simp only [Bool.and_eq_true, beq_iff_eq, decide_eq_true_eq, Prod.mk.injEq]
theorem kOk_K (kvs : List KvT) (k : KyT) : kOk (kvs.map encKV) (encK k) = true := by
  unfold kOk
  have h1 : keyD (encK k) = true := rfl
  rw [h1, Bool.true_and]
  refine List.all_eq_true.mpr fun p hp => ?_
  obtain ⟨q, _, rfl⟩ := List.mem_map.mp hp
  rfl
def putL (kvs : List KvT) (k : KyT) (v : Int × Int) : List KvT := if k ∈ kvs.map (·.1) then kvs.map (fun p => if p.1 = k then (p.1, v) else p) else kvs ++ [(k, v)]
theorem putK_L (kvs : List KvT) (k : KyT) (v : Int × Int) : putK (kvs.map encKV) (encK k) (encV v) = (putL kvs k v).map encKV := by
  unfold putK putL
  have e : ((kvs.map encKV).any fun p => PyData.eqv p.1 (encK k)) = decide (k ∈ kvs.map (·.1)) := by
    rw [Bool.eq_iff_iff, List.any_map, List.any_eq_true, decide_eq_true_eq, List.mem_map]
    constructor
    · rintro ⟨p, hp, h⟩
      have : PyData.eqv (encK p.1) (encK k) = true := h
      rw [eqv_K, decide_eq_true_eq] at this
      exact ⟨p, hp, this⟩
    · rintro ⟨p, hp, h⟩
      refine ⟨p, hp, ?_⟩
      show PyData.eqv (encK p.1) (encK k) = true
      rw [eqv_K, decide_eq_true_eq]
      exact h
  rw [e]
  by_cases h : k ∈ kvs.map (·.1)
  · rw [if_pos (decide_eq_true h), if_pos h, List.map_map, List.map_map]
    refine List.map_congr_left fun p _ => ?_
    show (if PyData.eqv (encK p.1) (encK k) = true then _ else _) = encKV (if p.1 = k then _ else _)
    rw [eqv_K]
    by_cases q : p.1 = k
    · rw [if_pos (decide_eq_true q), if_pos q]
      rfl
    · rw [if_neg (by simp [q]), if_neg q]
  · rw [if_neg (by simp [h]), if_neg h, List.map_append]
    rfl
theorem putL_ok {cs : List Str} {kvs : List KvT} {k : KyT} {v : Int × Int} (h : DcOk cs kvs) (hk : KvOk cs (k, v)) : DcOk cs (putL kvs k v) ∧ (putL kvs k v).length ≤ kvs.length + 1 := by
  unfold putL
  split
  · rename_i hm
    refine ⟨⟨fun p hp => ?_, ?_⟩, by rw [List.length_map]; omega⟩
    · obtain ⟨q, hq, rfl⟩ := List.mem_map.mp hp
      split
      · rename_i e
        rw [e]
        exact hk
      · exact h.ok q hq
    · have : (kvs.map fun p => if p.1 = k then (p.1, v) else p).map (·.1) = kvs.map (·.1) := by
        rw [List.map_map]
        refine List.map_congr_left fun p _ => ?_
        show (if p.1 = k then (p.1, v) else p).1 = p.1
        split <;> rfl
      rw [this]
      exact h.nd
  · rename_i hm
    refine ⟨⟨fun p hp => ?_, ?_⟩, by rw [List.length_append, List.length_singleton]; omega⟩
    · rcases List.mem_append.mp hp with hp | hp
      · exact h.ok p hp
      · rw [List.mem_singleton.mp hp]
        exact hk
    · rw [List.map_append, List.nodup_append]
      refine ⟨h.nd, by simp, fun a ha b hb => ?_⟩
      simp at hb
      subst hb
      intro e
      subst e
      exact hm ha
theorem getK_L : ∀ {kvs : List KvT} {p : KvT}, (kvs.map (·.1)).Nodup → p ∈ kvs → getK (kvs.map encKV) (encK p.1) = some (encV p.2)
  | q :: kvs, p, nd, h => by
    rw [List.map_cons, List.nodup_cons] at nd
    show (if PyData.eqv (encK q.1) (encK p.1) = true then some (encV q.2) else getK (kvs.map encKV) (encK p.1)) = _
    rw [eqv_K]
    rcases List.mem_cons.mp h with rfl | h
    · rw [if_pos (by simp)]
    · have ne : q.1 ≠ p.1 := fun e => nd.1 (e ▸ List.mem_map_of_mem h)
      rw [if_neg (by simp [ne])]
      exact getK_L nd.2 h
theorem setT_d {kvs : List (D × D)} {i v : D} : setT (.dct kvs) i v = if (kOk kvs i && decide (kvs.length < SZ)) = true then some (.dct (putK kvs i v)) else none := rfl
theorem setT_K {kvs : List KvT} {k : KyT} {v : Int × Int} (h : kvs.length < 1000) : setT (.dct (kvs.map encKV)) (encK k) (encV v) = some (.dct ((putL kvs k v).map encKV)) := by
  have h1 : (kvs.map encKV).length < SZ := by rw [List.length_map]; exact Nat.lt_of_lt_of_le h (by decide)
  rw [setT_d, if_pos (by rw [kOk_K, decide_eq_true h1]; rfl), putK_L]
/-- codes that are drawn -/
structure CsOk (cs : List Str) : Prop where
  sub : cs.Sublist six
  len : 1 ≤ cs.length ∧ cs.length ≤ 5
theorem six_lt : six.Pairwise fun a b => a.cps.toList < b.cps.toList := by decide +kernel
theorem six_ok : ∀ c ∈ six, (lettersB c = true ∧ c.length = 3) ∧ PyData.strOk c = true := by decide +kernel
theorem CsOk.lt {cs : List Str} (h : CsOk cs) : cs.Pairwise ltS := (six_lt.sublist h.sub)
theorem CsOk.code {cs : List Str} (h : CsOk cs) : ∀ c ∈ cs, isCode c := fun c hc => (six_ok c (h.sub.subset hc)).1
theorem CsOk.str {cs : List Str} (h : CsOk cs) : ∀ c ∈ cs, PyData.strOk c = true ∧ c.length ≤ SZ := fun c hc => ⟨(six_ok c (h.sub.subset hc)).2, by rw [(h.code c hc).2]; decide⟩
/-- a number among ints from 1 on -/
def Ws (ws : List D) : Prop := ∀ d ∈ ws, ∃ i : Int, d = .int i ∧ 1 ≤ i ∧ i ≤ 100000
theorem ix_nat {m i : Nat} (h : i < m) : ixI m (i : Int) = some i := by
  unfold ixI
  rw [if_pos (by omega), if_pos (by omega)]
  rfl
section
variable {lw : List Fd} (n : Nat)
abbrev ratS (st : List D) (cs : List Str) (most : Int) (ws : List D) (trip : Int) (kvs : List KvT) (u6 u7 u8 u9 u10 u11 : Option O) : En :=
  [some (.lst st), some (.v (.list (cs.map .str))), some (.v (.int most)), some (.lst ws), some (.v (.int trip)), some (.dct (kvs.map encKV)), u6, u7, u8, u9, u10, u11, none, none, none]
abbrev ratB9 : List CS := [(.asg (.nm 10) (.idx (.lst [(.cst (.int 0)), (.cal 42 [(.nm 0), (.cst (.int 40))] [] []), (.cal 42 [(.nm 0), (.cst (.int 10000))] [] [])]) (.cal 42 [(.nm 0), (.cst (.int 3))] [] []))), (.asg (.nm 11) (.tup [(.idx (.nm 3) (.nm 6)), (.idx (.nm 3) (.nm 8))])), (.iff (.or (.cmp .eq (.nm 4) (.cst (.int 1))) (.and (.cmp .eq (.nm 4) (.cst (.int 2))) (.cmp .eq (.cal 42 [(.nm 0), (.cst (.int 6))] [] []) (.cst (.int 0))))) [(.asg (.nm 11) (.tup [(.bin .add (.cst (.int 1)) (.cal 42 [(.nm 0), (.nm 2)] [] [])), (.bin .add (.cst (.int 1)) (.cal 42 [(.nm 0), (.nm 2)] [] []))]))] []), (.sti 5 (.tup [(.nm 7), (.idx (.nm 1) (.nm 8)), (.nm 10)]) (.nm 11))]
theorem rat_turn {cs : List Str} (hc : CsOk cs) {most : Int} (hm : 1 ≤ most ∧ most ≤ 100000) {ws : List D} (hw : Ws ws) (hwl : ws.length = cs.length) {trip : Int} {st : List D} (h : StOk st) {kvs : List KvT} (hk : DcOk cs kvs) (hkl : kvs.length < 1000) {i j : Nat} (hij : i < j) (hj : j < cs.length) {a : Str} (ha : cs[i]? = some a) (x : D) (u9 u10 u11 : Option O) :
    ∃ st' kvs' v9 v10 v11, forF (callD (FN lw) (n + 1)) [0] (.nm 9) ratB9 x (ratS st cs most ws trip kvs (some (.v (.int i))) (some (.v (.str a))) (some (.v (.int j))) u9 u10 u11) = some (.nx, ratS st' cs most ws trip kvs' (some (.v (.int i))) (some (.v (.str a))) (some (.v (.int j))) v9 v10 v11) ∧ StOk st' ∧ DcOk cs kvs' ∧ kvs'.length ≤ kvs.length + 1 := by
  have bm : Bd 64 most := .of64 (by omega) (by omega)
  obtain ⟨d1, st1, e1, a0, a1, h1⟩ := take_i (lw := lw) n h 40 (by decide) (by unfold Bd; decide)
  obtain ⟨d2, st2, e2, b0, b1, h2⟩ := take_i (lw := lw) n h1 10000 (by decide) (by unfold Bd; decide)
  obtain ⟨d3, st3, e3, c0, c1, h3⟩ := take_i (lw := lw) n h2 3 (by decide) (by unfold Bd; decide)
  obtain ⟨k, y, q1, q2, hmem⟩ := pick (m := 3) [.int 0, .int d1, .int d2] rfl c0 c1
  have hy : ∃ d : Int, y = .int d ∧ 0 ≤ d ∧ d ≤ 9999 := by
    simp only [List.mem_cons, List.not_mem_nil, or_false] at hmem
    rcases hmem with rfl | rfl | rfl
    · exact ⟨_, rfl, by omega, by omega⟩
    · exact ⟨_, rfl, by omega, by omega⟩
    · exact ⟨_, rfl, by omega, by omega⟩
  obtain ⟨d, rfl, hd⟩ := hy
  have hi : i < ws.length := by omega
  have hj' : j < ws.length := by omega
  obtain ⟨w1, hw1, r1⟩ := hw _ (List.getElem_mem hi)
  obtain ⟨w2, hw2, r2⟩ := hw _ (List.getElem_mem hj')
  have g1 : ws[i]? = some (.int w1) := by rw [List.getElem?_eq_getElem hi, hw1]
  have g2 : ws[j]? = some (.int w2) := by rw [List.getElem?_eq_getElem hj', hw2]
  have x1 := ix_nat hi
  have x2 := ix_nat hj'
  have hb : cs[j]? = some cs[j] := List.getElem?_eq_getElem hj
  have g3 : (cs.map PyData.str)[j]? = some (.str cs[j]) := by rw [List.getElem?_map, hb]; rfl
  have x3 : ixI (cs.map PyData.str).length (j : Int) = some j := ix_nat (by rw [List.length_map]; exact hj)
  obtain ⟨hi', ea⟩ := List.getElem?_eq_some_iff.mp ha
  have lt : ltS a cs[j] := by
    rw [← ea]
    exact List.pairwise_iff_getElem.mp hc.lt i j hi' hj hij
  have put : ∀ v : Int × Int, (1 ≤ v.1 ∧ v.1 ≤ 100000) → (1 ≤ v.2 ∧ v.2 ≤ 100000) → DcOk cs (putL kvs (a, cs[j], d) v) ∧ (putL kvs (a, cs[j], d) v).length ≤ kvs.length + 1 := fun v v1 v2 =>
    putL_ok hk ⟨by rw [← ea]; exact List.getElem_mem hi', List.getElem_mem hj, lt, hd, v1, v2⟩
  have sT : ∀ v : Int × Int, setT (.dct (kvs.map encKV)) (.tuple [.str a, .str cs[j], .int d]) (.tuple [.int v.1, .int v.2]) = some (.dct ((putL kvs (a, cs[j], d) v).map encKV)) := fun v => setT_K (k := (a, cs[j], d)) (v := v) hkl
  have drawn : ∀ st0, StOk st0 → ∃ t1 t2 st4 st5, (callD (FN lw) (n + 1) 42 [.lst st0, .v (.int most)] = some (.v (.int t1), [.lst st4, .v (.int most)]) ∧ callD (FN lw) (n + 1) 42 [.lst st4, .v (.int most)] = some (.v (.int t2), [.lst st5, .v (.int most)])) ∧ (0 ≤ t1 ∧ t1 < most) ∧ (0 ≤ t2 ∧ t2 < most) ∧ StOk st5 := fun st0 h0 => by
    obtain ⟨t1, st4, p1, p2, p3, h4⟩ := take_i (lw := lw) n h0 most (by omega) bm
    obtain ⟨t2, st5, s1, s2, s3, h5⟩ := take_i (lw := lw) n h4 most (by omega) bm
    exact ⟨t1, t2, st4, st5, ⟨p1, s1⟩, ⟨p2, p3⟩, ⟨s2, s3⟩, h5⟩
  unfold forF ratB9 ratS
  one_item
  rw [e1]
  one_item
  rw [e2]
  one_item
  rw [e3]
  one_item
  rw [q1]
  one_item
  rw [q2]
  one_item
  rw [x1]
  one_item
  rw [g1]
  one_item
  rw [x2]
  one_item
  rw [g2]
  one_item
  by_cases t1 : trip = 1
  · rw [decide_eq_true t1]
    obtain ⟨t1, t2, st4, st5, ⟨p1, p2⟩, b1, b2, h5⟩ := drawn st3 h3
    one_item
    rw [p1]
    one_item
    rw [p2]
    one_item
    rw [x3]
    one_item
    rw [g3]
    one_item
    rw [sT (1 + t1, 1 + t2)]
    one_item
    obtain ⟨k1, k2⟩ := put (1 + t1, 1 + t2) (by omega) (by omega)
    exact ⟨_, _, _, _, _, rfl, h5, k1, k2⟩
  · rw [decide_eq_false t1]
    one_item
    by_cases t2 : trip = 2
    · rw [decide_eq_true t2]
      one_item
      obtain ⟨f, st6, s1, s2, s3, h6⟩ := take_i (lw := lw) n h3 6 (by decide) (by unfold Bd; decide)
      rw [s1]
      one_item
      by_cases t3 : f = 0
      · rw [decide_eq_true t3]
        obtain ⟨t1, t2, st4, st5, ⟨p1, p2⟩, b1, b2, h5⟩ := drawn st6 h6
        one_item
        rw [p1]
        one_item
        rw [p2]
        one_item
        rw [x3]
        one_item
        rw [g3]
        one_item
        rw [sT (1 + t1, 1 + t2)]
        one_item
        obtain ⟨k1, k2⟩ := put (1 + t1, 1 + t2) (by omega) (by omega)
        exact ⟨_, _, _, _, _, rfl, h5, k1, k2⟩
      · rw [decide_eq_false t3]
        one_item
        rw [x3]
        one_item
        rw [g3]
        one_item
        rw [sT (w1, w2)]
        one_item
        obtain ⟨k1, k2⟩ := put (w1, w2) r1 r2
        exact ⟨_, _, _, _, _, rfl, h6, k1, k2⟩
    · rw [decide_eq_false t2]
      one_item
      rw [x3]
      one_item
      rw [g3]
      one_item
      rw [sT (w1, w2)]
      one_item
      obtain ⟨k1, k2⟩ := put (w1, w2) r1 r2
      exact ⟨_, _, _, _, _, rfl, h3, k1, k2⟩
end
end Mp
end

/-! ## L6a -/
section
set_option linter.all false
set_option maxRecDepth 100000
namespace Mp
open PySem
local macro_rules | `(tactic| one_item) => `(tactic| simp (config := { decide := false }) only [↓bnd_p, bnd_s, bnd_n, runF_e, endF_nx, endF_rt, exs_c, exs_n, seqF_nx, seqF_rt, seqF_bk, seqF_ct, ex.eq_1, ex.eq_2, ex.eq_3, ex.eq_4, ex.eq_5, ex.eq_6, ex.eq_7, ex.eq_8, ex.eq_9, ex.eq_10, ex.eq_11, ex.eq_12, ex.eq_15, ex.eq_16, ex.eq_17, ex.eq_18, ev.eq_1, ev.eq_2, ev.eq_3, ev.eq_4, ev.eq_5, ev.eq_6, ev.eq_7, ev.eq_8, ev.eq_9, ev.eq_10, ev.eq_11, ev.eq_12, ev.eq_13, ev.eq_14, ev.eq_15, ev.eq_16, ev.eq_17, ev.eq_18, ev.eq_19, ev.eq_20, ev.eq_23, ev.eq_24, ev.eq_25, ev.eq_26, ev.eq_27, evs, evas, evac, evc, evo, evod, evit.eq_1, evit.eq_3, evit.eq_4, evit.eq_5, evit.eq_6, evit.eq_7, evOs, arB_cst, arC_cst, arB_bin, arC_bin, arB_neg, arC_neg, arB_not, arC_not, arB_cmp, arC_cmp, arB_chn, arC_chn, arB_and, arC_and, arB_or, arC_or, arB_ife, arC_ife, arB_tup, arC_tup, arB_lst, arC_lst, arB_dct, arC_dct, arB_idx, arC_idx, arB_slc, arC_slc, arB_stp, arC_stp, arB_cal, arC_cal, arB_blt, arC_blt, arB_mth, arC_mth, arB_isi, arC_isi, arB_lc, arC_lc, arB_dc, arC_dc, arB_pop, arC_pop, arB_app, arC_app, arB_ext, arC_ext, arB_upd, arC_upd, arB_fst, arC_fst, arB_n, arC_n, arN_s, rdA_v, rdA_s, rdAs, hand, ownSl, putB, nodO, isLst, selK, binO, cmpO, ownIx, outs, pairUp_n, pairUp_s, mrg_n, isOwn_v, isOwn_l, isOwn_d, isOO_v, isOO_l, isOO_d, isO_n, isO_b, isNn_n, isNn_i, isNn_b, isNn_s, isNn_t, isNn_l, notB, leO_i, geO_i, ltO_i, gtO_i, eqO, intsO_i, addO_i, addO_t, addO_l, mulO_i, bolO_b, intO_i, isiD, idxO_t, idxO_l, idxO_vl, dctO_d, dctO_v, seqD_l, seqD_t, seqD_vl, lstO_l, lstO_vl, tupO_t, blO, one_e, two_e, absO_i, intB_i, intB_b, onInts_l, onBools_l, min2_i, max2_i, len_t, len_l, len_vl, len_s, setO_l, ixSet_e, List.set_cons_zero, List.set_cons_succ, asgT_n, asgT_t, asgTs_n, asgTs_c, tgOk_n, tgOk_t, tgsOk_n, tgsOk_c, setOs, wipe, back, slcO_t, slcO_vl, slcO_l, itO_l, itO_vl, itO_t, frA, d_v, d_l, d_d, at_z, at_s, set_z, set_s, ixI_0, ixI_1, ixI_2, ixI_3, ixI_4, eqP_i, eqP_s, nc, List.length_cons, List.length_nil, List.map_cons, List.map_nil, List.cons_append, List.nil_append, List.append_nil, rep_s, rep_z, all_rep, Nat.reduceAdd, Nat.reduceSub, Nat.reduceEqDiff, List.getElem?_cons_zero, List.getElem?_cons_succ, ↓Option.bind_eq_bind, Option.bind_some, Option.bind_none, Option.map_some, Option.map_none, Option.pure_def, if_true, if_false, ite_true, ite_false, reduceIte, Bool.not_true, Bool.not_false, Bool.false_eq_true, List.any_cons, List.any_nil, List.contains_cons, List.contains_nil, Bool.or_false, Bool.false_or, Bool.or_self, Bool.and_true, Bool.true_and, Bool.and_self, Bool.and_false, Bool.false_and, Bool.or_true, Bool.true_or, List.nodup_nil, List.nodup_cons, List.mem_cons, List.not_mem_nil, or_false, or_self, not_false_eq_true, and_true, and_self, Nat.reduceEqDiff, Nat.succ_ne_zero, Nat.zero_ne_one, Nat.one_ne_zero, beq_self_eq_true, Nat.reduceBEq, Int.reduceMul, Int.reduceNeg, decide_true, decide_false, Int.reduceLT, Int.reduceLE, Int.reduceEq, Int.ofNat_eq_natCast])
local macro_rules | `(tactic| one_place) => `(tactic| simp (config := { decide := false }) only [↓bnd_p, bnd_s, bnd_n, runF_e, endF_nx, endF_rt, exs_c, exs_n, seqF_nx, seqF_rt, seqF_bk, seqF_ct, ex.eq_1, ex.eq_2, ex.eq_3, ex.eq_4, ex.eq_5, ex.eq_6, ex.eq_7, ex.eq_8, ex.eq_9, ex.eq_10, ex.eq_11, ex.eq_12, ex.eq_15, ex.eq_16, ex.eq_17, ex.eq_18, ev.eq_1, ev.eq_2, ev.eq_3, ev.eq_4, ev.eq_5, ev.eq_6, ev.eq_7, ev.eq_8, ev.eq_9, ev.eq_10, ev.eq_11, ev.eq_12, ev.eq_13, ev.eq_14, ev.eq_15, ev.eq_16, ev.eq_17, ev.eq_18, ev.eq_19, ev.eq_20, ev.eq_23, ev.eq_24, ev.eq_25, ev.eq_26, ev.eq_27, evs, evas, evac, evc, evo, evod, evit.eq_1, evit.eq_3, evit.eq_4, evit.eq_5, evit.eq_6, evit.eq_7, evOs, arB_cst, arC_cst, arB_bin, arC_bin, arB_neg, arC_neg, arB_not, arC_not, arB_cmp, arC_cmp, arB_chn, arC_chn, arB_and, arC_and, arB_or, arC_or, arB_ife, arC_ife, arB_tup, arC_tup, arB_lst, arC_lst, arB_dct, arC_dct, arB_idx, arC_idx, arB_slc, arC_slc, arB_stp, arC_stp, arB_cal, arC_cal, arB_blt, arC_blt, arB_mth, arC_mth, arB_isi, arC_isi, arB_lc, arC_lc, arB_dc, arC_dc, arB_pop, arC_pop, arB_app, arC_app, arB_ext, arC_ext, arB_upd, arC_upd, arB_fst, arC_fst, arB_n, arC_n, arN_s, rdA_v, rdA_s, rdAs, hand, ownSl, putB, nodO, isLst, selK, binO, cmpO, ownIx, outs, pairUp_n, pairUp_s, mrg_n, isOwn_v, isOwn_l, isOwn_d, isOO_v, isOO_l, isOO_d, isO_n, isO_b, isNn_n, isNn_i, isNn_b, isNn_s, isNn_t, isNn_l, notB, leO_i, geO_i, ltO_i, gtO_i, eqO, intsO_i, addO_i, addO_t, addO_l, mulO_i, bolO_b, intO_i, isiD, idxO_t, idxO_l, idxO_vl, dctO_d, dctO_v, seqD_l, seqD_t, seqD_vl, lstO_l, lstO_vl, tupO_t, blO, one_e, two_e, absO_i, intB_i, intB_b, onInts_l, onBools_l, min2_i, max2_i, len_t, len_l, len_vl, len_s, setO_l, ixSet_e, List.set_cons_zero, List.set_cons_succ, asgT_n, asgT_t, asgTs_n, asgTs_c, tgOk_n, tgOk_t, tgsOk_n, tgsOk_c, setOs, wipe, back, slcO_t, slcO_vl, slcO_l, itO_l, itO_vl, itO_t, frA, d_v, d_l, d_d, at_z, at_s, set_z, set_s, ixI_0, ixI_1, ixI_2, ixI_3, ixI_4, eqP_i, eqP_s, nc, List.length_cons, List.length_nil, List.map_cons, List.map_nil, List.cons_append, List.nil_append, List.append_nil, rep_s, rep_z, all_rep, Nat.reduceAdd, Nat.reduceSub, Nat.reduceEqDiff, List.getElem?_cons_zero, List.getElem?_cons_succ, ↓Option.bind_eq_bind, Option.bind_some, Option.bind_none, Option.map_some, Option.map_none, Option.pure_def, if_true, if_false, ite_true, ite_false, reduceIte, Bool.not_true, Bool.not_false, Bool.false_eq_true, List.any_cons, List.any_nil, List.contains_cons, List.contains_nil, Bool.or_false, Bool.false_or, Bool.or_self, Bool.and_true, Bool.true_and, Bool.and_self, Bool.and_false, Bool.false_and, Bool.or_true, Bool.true_or, List.nodup_nil, List.nodup_cons, List.mem_cons, List.not_mem_nil, or_false, or_self, not_false_eq_true, and_true, and_self, Nat.reduceEqDiff, Nat.succ_ne_zero, Nat.zero_ne_one, Nat.one_ne_zero, beq_self_eq_true, Nat.reduceBEq, Int.reduceMul, Int.reduceNeg, decide_true, decide_false, Int.reduceLT, Int.reduceLE, Int.reduceEq, Int.ofNat_eq_natCast, *])
theorem rngD_cons {lo hi : Int} (h : lo < hi) : rngD lo hi = .int lo :: rngD (lo + 1) hi := by
  unfold rngD
  obtain ⟨m, hm⟩ : ∃ m : Nat, (hi - lo).toNat = m + 1 := ⟨(hi - lo).toNat - 1, by omega⟩
  rw [hm, show (hi - (lo + 1)).toNat = m from by omega, List.range_succ_eq_map, List.map_cons, List.map_map]
  congr 1
  · show PyData.int (lo + ((0 : Nat) : Int)) = _
    rw [Int.natCast_zero, Int.add_zero]
  · refine List.map_congr_left fun i _ => ?_
    show PyData.int (lo + ((i + 1 : Nat) : Int)) = PyData.int (lo + 1 + (i : Int))
    congr 1
    omega
theorem rngD_nil {lo hi : Int} (h : hi ≤ lo) : rngD lo hi = [] := by
  unfold rngD
  rw [show (hi - lo).toNat = 0 from by omega]
  rfl
def tri : Nat → Nat
  | 0 => 0
  | n + 1 => n + tri n
section
variable {lw : List Fd} (n : Nat)
theorem rat_loop9 {cs : List Str} (hc : CsOk cs) {most : Int} (hm : 1 ≤ most ∧ most ≤ 100000) {ws : List D} (hw : Ws ws) (hwl : ws.length = cs.length) {trip : Int} {i j : Nat} (hij : i < j) (hj : j < cs.length) {a : Str} (ha : cs[i]? = some a) (N : Nat) (hN : N ≤ 900) (xs : List D) (st : List D) (h : StOk st) (kvs : List KvT) (hk : DcOk cs kvs) (hl : kvs.length + xs.length ≤ N) (u9 u10 u11 : Option O) :
    ∃ st' kvs' v9 v10 v11, forLoop (forF (callD (FN lw) (n + 1)) [0] (.nm 9) ratB9) xs (ratS st cs most ws trip kvs (some (.v (.int i))) (some (.v (.str a))) (some (.v (.int j))) u9 u10 u11) = some (.nx, ratS st' cs most ws trip kvs' (some (.v (.int i))) (some (.v (.str a))) (some (.v (.int j))) v9 v10 v11) ∧ StOk st' ∧ DcOk cs kvs' ∧ kvs'.length ≤ N := by
  obtain ⟨r', e, st', kvs', v9, v10, v11, rfl, h1, h2, h3⟩ := forLoop_inv (f := forF (callD (FN lw) (n + 1)) [0] (.nm 9) ratB9) (fun xs r => ∃ st kvs v9 v10 v11, r = ratS st cs most ws trip kvs (some (.v (.int i))) (some (.v (.str a))) (some (.v (.int j))) v9 v10 v11 ∧ StOk st ∧ DcOk cs kvs ∧ kvs.length + xs.length ≤ N) xs _ ⟨st, kvs, u9, u10, u11, rfl, h, hk, hl⟩
    (fun x xs r ⟨st, kvs, v9, v10, v11, er, h1, h2, h3⟩ => by
      subst er
      rw [List.length_cons] at h3
      obtain ⟨st', kvs', w9, w10, w11, e, k1, k2, k3⟩ := rat_turn (lw := lw) n hc hm hw hwl h1 h2 (by omega) hij hj ha x v9 v10 v11
      exact ⟨_, e, st', kvs', w9, w10, w11, rfl, k1, k2, by omega⟩)
  exact ⟨st', kvs', v9, v10, v11, e, h1, h2, by simpa using h3⟩
abbrev ratB8 : List CS := [(.for (.nm 9) (.rng (.cst (.int 0)) (.idx (.lst [(.cst (.int 1)), (.cst (.int 1)), (.cst (.int 2)), (.cst (.int 0))]) (.cal 42 [(.nm 0), (.cst (.int 4))] [] []))) ratB9)]
theorem rat_turn8 {cs : List Str} (hc : CsOk cs) {most : Int} (hm : 1 ≤ most ∧ most ≤ 100000) {ws : List D} (hw : Ws ws) (hwl : ws.length = cs.length) {trip : Int} {i j : Nat} (hij : i < j) (hj : j < cs.length) {a : Str} (ha : cs[i]? = some a) (st : List D) (h : StOk st) (kvs : List KvT) (hk : DcOk cs kvs) (hl : kvs.length ≤ 800) (u8 u9 u10 u11 : Option O) :
    ∃ st' kvs' v9 v10 v11, forF (callD (FN lw) (n + 1)) [0] (.nm 8) ratB8 (.int j) (ratS st cs most ws trip kvs (some (.v (.int i))) (some (.v (.str a))) u8 u9 u10 u11) = some (.nx, ratS st' cs most ws trip kvs' (some (.v (.int i))) (some (.v (.str a))) (some (.v (.int j))) v9 v10 v11) ∧ StOk st' ∧ DcOk cs kvs' ∧ kvs'.length ≤ kvs.length + 2 := by
  obtain ⟨d, st1, e1, a0, a1, h1⟩ := take_i (lw := lw) n h 4 (by decide) (by unfold Bd; decide)
  obtain ⟨k, y, q1, q2, hmem⟩ := pick (m := 4) [.int 1, .int 1, .int 2, .int 0] rfl a0 a1
  have hy : ∃ t : Int, y = .int t ∧ 0 ≤ t ∧ t ≤ 2 := by
    simp only [List.mem_cons, List.not_mem_nil, or_false] at hmem
    rcases hmem with rfl | rfl | rfl | rfl
    · exact ⟨_, rfl, by omega, by omega⟩
    · exact ⟨_, rfl, by omega, by omega⟩
    · exact ⟨_, rfl, by omega, by omega⟩
    · exact ⟨_, rfl, by omega, by omega⟩
  obtain ⟨t, rfl, ht⟩ := hy
  obtain ⟨st', kvs', v9, v10, v11, e, k1, k2, k3⟩ := rat_loop9 (lw := lw) n hc hm hw hwl (trip := trip) hij hj ha (kvs.length + 2) (by omega) (rngD 0 t) st1 h1 kvs hk (by rw [rngD_len]; omega) u9 u10 u11
  refine ⟨st', kvs', v9, v10, v11, ?_, k1, k2, k3⟩
  unfold forF ratB8 ratS
  one_item
  rw [for_run (evit_rng (i := 0) (j := t) (r1 := ratS st cs most ws trip kvs (some (.v (.int i))) (some (.v (.str a))) (some (.v (.int j))) u9 u10 u11) (r2 := ratS st1 cs most ws trip kvs (some (.v (.int i))) (some (.v (.str a))) (some (.v (.int j))) u9 u10 u11) (by one_item) (by
    one_item
    rw [e1]
    one_item
    rw [q1]
    one_item
    rw [q2]
    one_item) (by decide) (by omega)) (by one_item) e]
  one_item
theorem rat_loop8 {cs : List Str} (hc : CsOk cs) {most : Int} (hm : 1 ≤ most ∧ most ≤ 100000) {ws : List D} (hw : Ws ws) (hwl : ws.length = cs.length) {trip : Int} {i : Nat} {a : Str} (ha : cs[i]? = some a) (N : Nat) (hN : N ≤ 700) (st : List D) (h : StOk st) (kvs : List KvT) (hk : DcOk cs kvs) (hl : kvs.length + 2 * (cs.length - (i + 1)) ≤ N) (u8 u9 u10 u11 : Option O) :
    ∃ st' kvs' v8 v9 v10 v11, forLoop (forF (callD (FN lw) (n + 1)) [0] (.nm 8) ratB8) (rngD ((i + 1 : Nat) : Int) (cs.length : Int)) (ratS st cs most ws trip kvs (some (.v (.int i))) (some (.v (.str a))) u8 u9 u10 u11) = some (.nx, ratS st' cs most ws trip kvs' (some (.v (.int i))) (some (.v (.str a))) v8 v9 v10 v11) ∧ StOk st' ∧ DcOk cs kvs' ∧ kvs'.length ≤ N := by
  obtain ⟨r', e, j, st', kvs', v8, v9, v10, v11, rfl, _, h1, h2, h3⟩ := forLoop_inv (f := forF (callD (FN lw) (n + 1)) [0] (.nm 8) ratB8) (fun xs r => ∃ j st kvs v8 v9 v10 v11, r = ratS st cs most ws trip kvs (some (.v (.int i))) (some (.v (.str a))) v8 v9 v10 v11 ∧ (xs = rngD ((j : Nat) : Int) (cs.length : Int) ∧ i < j) ∧ StOk st ∧ DcOk cs kvs ∧ kvs.length + 2 * (cs.length - j) ≤ N) (rngD ((i + 1 : Nat) : Int) (cs.length : Int)) _ ⟨i + 1, st, kvs, u8, u9, u10, u11, rfl, ⟨rfl, Nat.lt_succ_self i⟩, h, hk, hl⟩
    (fun x xs r ⟨j, st, kvs, v8, v9, v10, v11, er, ⟨ex, hij⟩, h1, h2, h3⟩ => by
      subst er
      by_cases hj : j < cs.length
      · rw [rngD_cons (by omega)] at ex
        obtain ⟨rfl, rfl⟩ := List.cons.inj ex
        obtain ⟨st', kvs', w9, w10, w11, e, k1, k2, k3⟩ := rat_turn8 (lw := lw) n hc hm hw hwl (trip := trip) hij hj ha st h1 kvs h2 (by omega) v8 v9 v10 v11
        exact ⟨_, e, j + 1, st', kvs', _, w9, w10, w11, rfl, ⟨rfl, by omega⟩, k1, k2, by omega⟩
      · rw [rngD_nil (by omega)] at ex
        cases ex)
  exact ⟨st', kvs', v8, v9, v10, v11, e, h1, h2, by omega⟩
end
end Mp
end

/-! ## L6 -/
section
set_option linter.all false
set_option maxRecDepth 100000
namespace Mp
open PySem
local macro_rules | `(tactic| one_item) => `(tactic| simp (config := { decide := false }) only [↓bnd_p, bnd_s, bnd_n, runF_e, endF_nx, endF_rt, exs_c, exs_n, seqF_nx, seqF_rt, seqF_bk, seqF_ct, ex.eq_1, ex.eq_2, ex.eq_3, ex.eq_4, ex.eq_5, ex.eq_6, ex.eq_7, ex.eq_8, ex.eq_9, ex.eq_10, ex.eq_11, ex.eq_12, ex.eq_15, ex.eq_16, ex.eq_17, ex.eq_18, ev.eq_1, ev.eq_2, ev.eq_3, ev.eq_4, ev.eq_5, ev.eq_6, ev.eq_7, ev.eq_8, ev.eq_9, ev.eq_10, ev.eq_11, ev.eq_12, ev.eq_13, ev.eq_14, ev.eq_15, ev.eq_16, ev.eq_17, ev.eq_18, ev.eq_19, ev.eq_20, ev.eq_23, ev.eq_24, ev.eq_25, ev.eq_26, ev.eq_27, evs, evas, evac, evc, evo, evod, evit.eq_1, evit.eq_3, evit.eq_4, evit.eq_5, evit.eq_6, evit.eq_7, evOs, arB_cst, arC_cst, arB_bin, arC_bin, arB_neg, arC_neg, arB_not, arC_not, arB_cmp, arC_cmp, arB_chn, arC_chn, arB_and, arC_and, arB_or, arC_or, arB_ife, arC_ife, arB_tup, arC_tup, arB_lst, arC_lst, arB_dct, arC_dct, arB_idx, arC_idx, arB_slc, arC_slc, arB_stp, arC_stp, arB_cal, arC_cal, arB_blt, arC_blt, arB_mth, arC_mth, arB_isi, arC_isi, arB_lc, arC_lc, arB_dc, arC_dc, arB_pop, arC_pop, arB_app, arC_app, arB_ext, arC_ext, arB_upd, arC_upd, arB_fst, arC_fst, arB_n, arC_n, arN_s, rdA_v, rdA_s, rdAs, hand, ownSl, putB, nodO, isLst, selK, binO, cmpO, ownIx, outs, pairUp_n, pairUp_s, mrg_n, isOwn_v, isOwn_l, isOwn_d, isOO_v, isOO_l, isOO_d, isO_n, isO_b, isNn_n, isNn_i, isNn_b, isNn_s, isNn_t, isNn_l, notB, leO_i, geO_i, ltO_i, gtO_i, eqO, intsO_i, addO_i, addO_t, addO_l, mulO_i, bolO_b, intO_i, isiD, idxO_t, idxO_l, idxO_vl, dctO_d, dctO_v, seqD_l, seqD_t, seqD_vl, lstO_l, lstO_vl, tupO_t, blO, one_e, two_e, absO_i, intB_i, intB_b, onInts_l, onBools_l, min2_i, max2_i, len_t, len_l, len_vl, len_s, setO_l, ixSet_e, List.set_cons_zero, List.set_cons_succ, asgT_n, asgT_t, asgTs_n, asgTs_c, tgOk_n, tgOk_t, tgsOk_n, tgsOk_c, setOs, wipe, back, slcO_t, slcO_vl, slcO_l, itO_l, itO_vl, itO_t, frA, d_v, d_l, d_d, at_z, at_s, set_z, set_s, ixI_0, ixI_1, ixI_2, ixI_3, ixI_4, eqP_i, eqP_s, nc, List.length_cons, List.length_nil, List.map_cons, List.map_nil, List.cons_append, List.nil_append, List.append_nil, rep_s, rep_z, all_rep, Nat.reduceAdd, Nat.reduceSub, Nat.reduceEqDiff, List.getElem?_cons_zero, List.getElem?_cons_succ, ↓Option.bind_eq_bind, Option.bind_some, Option.bind_none, Option.map_some, Option.map_none, Option.pure_def, if_true, if_false, ite_true, ite_false, reduceIte, Bool.not_true, Bool.not_false, Bool.false_eq_true, List.any_cons, List.any_nil, List.contains_cons, List.contains_nil, Bool.or_false, Bool.false_or, Bool.or_self, Bool.and_true, Bool.true_and, Bool.and_self, Bool.and_false, Bool.false_and, Bool.or_true, Bool.true_or, List.nodup_nil, List.nodup_cons, List.mem_cons, List.not_mem_nil, or_false, or_self, not_false_eq_true, and_true, and_self, Nat.reduceEqDiff, Nat.succ_ne_zero, Nat.zero_ne_one, Nat.one_ne_zero, beq_self_eq_true, Nat.reduceBEq, Int.reduceMul, Int.reduceNeg, decide_true, decide_false, Int.reduceLT, Int.reduceLE, Int.reduceEq, Int.ofNat_eq_natCast])
local macro_rules | `(tactic| one_place) => `(tactic| simp (config := { decide := false }) only [↓bnd_p, bnd_s, bnd_n, runF_e, endF_nx, endF_rt, exs_c, exs_n, seqF_nx, seqF_rt, seqF_bk, seqF_ct, ex.eq_1, ex.eq_2, ex.eq_3, ex.eq_4, ex.eq_5, ex.eq_6, ex.eq_7, ex.eq_8, ex.eq_9, ex.eq_10, ex.eq_11, ex.eq_12, ex.eq_15, ex.eq_16, ex.eq_17, ex.eq_18, ev.eq_1, ev.eq_2, ev.eq_3, ev.eq_4, ev.eq_5, ev.eq_6, ev.eq_7, ev.eq_8, ev.eq_9, ev.eq_10, ev.eq_11, ev.eq_12, ev.eq_13, ev.eq_14, ev.eq_15, ev.eq_16, ev.eq_17, ev.eq_18, ev.eq_19, ev.eq_20, ev.eq_23, ev.eq_24, ev.eq_25, ev.eq_26, ev.eq_27, evs, evas, evac, evc, evo, evod, evit.eq_1, evit.eq_3, evit.eq_4, evit.eq_5, evit.eq_6, evit.eq_7, evOs, arB_cst, arC_cst, arB_bin, arC_bin, arB_neg, arC_neg, arB_not, arC_not, arB_cmp, arC_cmp, arB_chn, arC_chn, arB_and, arC_and, arB_or, arC_or, arB_ife, arC_ife, arB_tup, arC_tup, arB_lst, arC_lst, arB_dct, arC_dct, arB_idx, arC_idx, arB_slc, arC_slc, arB_stp, arC_stp, arB_cal, arC_cal, arB_blt, arC_blt, arB_mth, arC_mth, arB_isi, arC_isi, arB_lc, arC_lc, arB_dc, arC_dc, arB_pop, arC_pop, arB_app, arC_app, arB_ext, arC_ext, arB_upd, arC_upd, arB_fst, arC_fst, arB_n, arC_n, arN_s, rdA_v, rdA_s, rdAs, hand, ownSl, putB, nodO, isLst, selK, binO, cmpO, ownIx, outs, pairUp_n, pairUp_s, mrg_n, isOwn_v, isOwn_l, isOwn_d, isOO_v, isOO_l, isOO_d, isO_n, isO_b, isNn_n, isNn_i, isNn_b, isNn_s, isNn_t, isNn_l, notB, leO_i, geO_i, ltO_i, gtO_i, eqO, intsO_i, addO_i, addO_t, addO_l, mulO_i, bolO_b, intO_i, isiD, idxO_t, idxO_l, idxO_vl, dctO_d, dctO_v, seqD_l, seqD_t, seqD_vl, lstO_l, lstO_vl, tupO_t, blO, one_e, two_e, absO_i, intB_i, intB_b, onInts_l, onBools_l, min2_i, max2_i, len_t, len_l, len_vl, len_s, setO_l, ixSet_e, List.set_cons_zero, List.set_cons_succ, asgT_n, asgT_t, asgTs_n, asgTs_c, tgOk_n, tgOk_t, tgsOk_n, tgsOk_c, setOs, wipe, back, slcO_t, slcO_vl, slcO_l, itO_l, itO_vl, itO_t, frA, d_v, d_l, d_d, at_z, at_s, set_z, set_s, ixI_0, ixI_1, ixI_2, ixI_3, ixI_4, eqP_i, eqP_s, nc, List.length_cons, List.length_nil, List.map_cons, List.map_nil, List.cons_append, List.nil_append, List.append_nil, rep_s, rep_z, all_rep, Nat.reduceAdd, Nat.reduceSub, Nat.reduceEqDiff, List.getElem?_cons_zero, List.getElem?_cons_succ, ↓Option.bind_eq_bind, Option.bind_some, Option.bind_none, Option.map_some, Option.map_none, Option.pure_def, if_true, if_false, ite_true, ite_false, reduceIte, Bool.not_true, Bool.not_false, Bool.false_eq_true, List.any_cons, List.any_nil, List.contains_cons, List.contains_nil, Bool.or_false, Bool.false_or, Bool.or_self, Bool.and_true, Bool.true_and, Bool.and_self, Bool.and_false, Bool.false_and, Bool.or_true, Bool.true_or, List.nodup_nil, List.nodup_cons, List.mem_cons, List.not_mem_nil, or_false, or_self, not_false_eq_true, and_true, and_self, Nat.reduceEqDiff, Nat.succ_ne_zero, Nat.zero_ne_one, Nat.one_ne_zero, beq_self_eq_true, Nat.reduceBEq, Int.reduceMul, Int.reduceNeg, decide_true, decide_false, Int.reduceLT, Int.reduceLE, Int.reduceEq, Int.ofNat_eq_natCast, *])
section
variable {lw : List Fd} (n : Nat)
abbrev ratB6 : List CS := [(.for (.nm 8) (.rng (.bin .add (.nm 6) (.cst (.int 1))) (.blt .len [(.nm 1)])) ratB8)]
theorem tgt6 {g : Ga} {st : List D} {cs : List Str} {most : Int} {ws : List D} {trip : Int} {kvs : List KvT} {v6 v7 v8 v9 v10 v11 : Option O} {d e : D} : forF g [0] (.tp [(.nm 6), (.nm 7)]) ratB6 (.tuple [d, e]) (ratS st cs most ws trip kvs v6 v7 v8 v9 v10 v11) = exs g [0] ratB6 (ratS st cs most ws trip kvs (some (.v d)) (some (.v e)) v8 v9 v10 v11) := by
  unfold forF
  rw [asgT_t, asgTs_c, asgT_n]
  show (asgTs [.nm 7] [e] _).bind _ = _
  rw [asgTs_c, asgT_n]
  show (asgTs [] [] _).bind _ = _
  rw [asgTs_n]
  rfl
theorem rat_loop6 {cs : List Str} (hc : CsOk cs) {most : Int} (hm : 1 ≤ most ∧ most ≤ 100000) {ws : List D} (hw : Ws ws) (hwl : ws.length = cs.length) {trip : Int} (st : List D) (h : StOk st) :
    ∃ st' kvs' v6 v7 v8 v9 v10 v11, forLoop (forF (callD (FN lw) (n + 1)) [0] (.tp [(.nm 6), (.nm 7)]) ratB6) (enmD (cs.map .str) 0) (ratS st cs most ws trip [] none none none none none none) = some (.nx, ratS st' cs most ws trip kvs' v6 v7 v8 v9 v10 v11) ∧ StOk st' ∧ DcOk cs kvs' ∧ kvs'.length ≤ 20 := by
  have h5 := hc.len
  obtain ⟨r', e, i, st', kvs', v6, v7, v8, v9, v10, v11, rfl, _, h1, h2, h3⟩ := forLoop_inv (f := forF (callD (FN lw) (n + 1)) [0] (.tp [(.nm 6), (.nm 7)]) ratB6) (fun xs r => ∃ i st kvs v6 v7 v8 v9 v10 v11, r = ratS st cs most ws trip kvs v6 v7 v8 v9 v10 v11 ∧ xs = enmD ((cs.map PyData.str).drop i) i ∧ StOk st ∧ DcOk cs kvs ∧ kvs.length + 2 * tri (cs.length - i) ≤ 20) (enmD (cs.map .str) 0) _ ⟨0, st, [], none, none, none, none, none, none, rfl, rfl, h, ⟨fun _ h => (nomatch h), List.nodup_nil⟩, by
      have : cs.length = 1 ∨ cs.length = 2 ∨ cs.length = 3 ∨ cs.length = 4 ∨ cs.length = 5 := by omega
      rcases this with q | q | q | q | q <;> rw [q] <;> decide⟩
    (fun x xs r ⟨i, st, kvs, v6, v7, v8, v9, v10, v11, er, ex, h1, h2, h3⟩ => by
      subst er
      by_cases hi : i < cs.length
      · have hi' : i < (cs.map PyData.str).length := by rw [List.length_map]; exact hi
        rw [List.drop_eq_getElem_cons hi', List.getElem_map] at ex
        obtain ⟨rfl, rfl⟩ := List.cons.inj (show x :: xs = .tuple [.int (i : Nat), .str cs[i]] :: enmD ((cs.map PyData.str).drop (i + 1)) (i + 1) from ex)
        obtain ⟨L, hL⟩ : ∃ L, cs.length - i = L + 1 := ⟨cs.length - i - 1, by omega⟩
        rw [hL] at h3
        have h3' : kvs.length + 2 * (L + tri L) ≤ 20 := h3
        have hL2 : cs.length - (i + 1) = L := by omega
        obtain ⟨st', kvs', w8, w9, w10, w11, e, k1, k2, k3⟩ := rat_loop8 (lw := lw) n hc hm hw hwl (trip := trip) (i := i) (List.getElem?_eq_getElem hi) (kvs.length + 2 * L) (by omega) st h1 kvs h2 (by rw [hL2]; exact Nat.le_refl _) v8 v9 v10 v11
        have hcast : ((i + 1 : Nat) : Int) = (i : Int) + 1 := by omega
        rw [hcast] at e
        refine ⟨ratS st' cs most ws trip kvs' (some (.v (.int i))) (some (.v (.str cs[i]))) w8 w9 w10 w11, ?_, i + 1, st', kvs', _, _, w8, w9, w10, w11, rfl, rfl, k1, k2, by rw [hL2]; omega⟩
        rw [tgt6]
        unfold ratB6 ratS
        one_item
        rw [for_run (evit_rng (i := (i : Int) + 1) (j := (cs.length : Int)) (r1 := ratS st cs most ws trip kvs (some (.v (.int i))) (some (.v (.str cs[i]))) v8 v9 v10 v11) (r2 := ratS st cs most ws trip kvs (some (.v (.int i))) (some (.v (.str cs[i]))) v8 v9 v10 v11) (by one_item) (by
          one_item
          rw [List.length_map]) (by omega) (by omega)) (by one_item) e]
        one_item
      · rw [List.drop_eq_nil_of_le (by rw [List.length_map]; omega)] at ex
        cases ex)
  exact ⟨st', kvs', v6, v7, v8, v9, v10, v11, e, h1, h2, by omega⟩
end
end Mp
end

/-! ## L7 -/
section
set_option linter.all false
set_option maxRecDepth 100000
namespace Mp
open PySem
local macro_rules | `(tactic| one_item) => `(tactic| simp (config := { decide := false }) only [↓bnd_p, bnd_s, bnd_n, runF_e, endF_nx, endF_rt, exs_c, exs_n, seqF_nx, seqF_rt, seqF_bk, seqF_ct, ex.eq_1, ex.eq_2, ex.eq_3, ex.eq_4, ex.eq_5, ex.eq_6, ex.eq_7, ex.eq_8, ex.eq_9, ex.eq_10, ex.eq_11, ex.eq_12, ex.eq_15, ex.eq_16, ex.eq_17, ex.eq_18, ev.eq_1, ev.eq_2, ev.eq_3, ev.eq_4, ev.eq_5, ev.eq_6, ev.eq_7, ev.eq_8, ev.eq_9, ev.eq_10, ev.eq_11, ev.eq_12, ev.eq_13, ev.eq_14, ev.eq_15, ev.eq_16, ev.eq_17, ev.eq_18, ev.eq_19, ev.eq_20, ev.eq_23, ev.eq_24, ev.eq_25, ev.eq_26, ev.eq_27, evs, evas, evac, evc, evo, evod, evit.eq_1, evit.eq_3, evit.eq_4, evit.eq_5, evit.eq_6, evit.eq_7, evOs, arB_cst, arC_cst, arB_bin, arC_bin, arB_neg, arC_neg, arB_not, arC_not, arB_cmp, arC_cmp, arB_chn, arC_chn, arB_and, arC_and, arB_or, arC_or, arB_ife, arC_ife, arB_tup, arC_tup, arB_lst, arC_lst, arB_dct, arC_dct, arB_idx, arC_idx, arB_slc, arC_slc, arB_stp, arC_stp, arB_cal, arC_cal, arB_blt, arC_blt, arB_mth, arC_mth, arB_isi, arC_isi, arB_lc, arC_lc, arB_dc, arC_dc, arB_pop, arC_pop, arB_app, arC_app, arB_ext, arC_ext, arB_upd, arC_upd, arB_fst, arC_fst, arB_n, arC_n, arN_s, rdA_v, rdA_s, rdAs, hand, ownSl, putB, nodO, isLst, selK, binO, cmpO, ownIx, outs, pairUp_n, pairUp_s, mrg_n, isOwn_v, isOwn_l, isOwn_d, isOO_v, isOO_l, isOO_d, isO_n, isO_b, isNn_n, isNn_i, isNn_b, isNn_s, isNn_t, isNn_l, notB, leO_i, geO_i, ltO_i, gtO_i, eqO, intsO_i, addO_i, addO_t, addO_l, mulO_i, bolO_b, intO_i, isiD, idxO_t, idxO_l, idxO_vl, dctO_d, dctO_v, seqD_l, seqD_t, seqD_vl, lstO_l, lstO_vl, tupO_t, blO, one_e, two_e, absO_i, intB_i, intB_b, onInts_l, onBools_l, min2_i, max2_i, len_t, len_l, len_vl, len_s, setO_l, ixSet_e, List.set_cons_zero, List.set_cons_succ, asgT_n, asgT_t, asgTs_n, asgTs_c, tgOk_n, tgOk_t, tgsOk_n, tgsOk_c, setOs, wipe, back, slcO_t, slcO_vl, slcO_l, itO_l, itO_vl, itO_t, frA, d_v, d_l, d_d, at_z, at_s, set_z, set_s, ixI_0, ixI_1, ixI_2, ixI_3, ixI_4, eqP_i, eqP_s, nc, List.length_cons, List.length_nil, List.map_cons, List.map_nil, List.cons_append, List.nil_append, List.append_nil, rep_s, rep_z, all_rep, Nat.reduceAdd, Nat.reduceSub, Nat.reduceEqDiff, List.getElem?_cons_zero, List.getElem?_cons_succ, ↓Option.bind_eq_bind, Option.bind_some, Option.bind_none, Option.map_some, Option.map_none, Option.pure_def, if_true, if_false, ite_true, ite_false, reduceIte, Bool.not_true, Bool.not_false, Bool.false_eq_true, List.any_cons, List.any_nil, List.contains_cons, List.contains_nil, Bool.or_false, Bool.false_or, Bool.or_self, Bool.and_true, Bool.true_and, Bool.and_self, Bool.and_false, Bool.false_and, Bool.or_true, Bool.true_or, List.nodup_nil, List.nodup_cons, List.mem_cons, List.not_mem_nil, or_false, or_self, not_false_eq_true, and_true, and_self, Nat.reduceEqDiff, Nat.succ_ne_zero, Nat.zero_ne_one, Nat.one_ne_zero, beq_self_eq_true, Nat.reduceBEq, Int.reduceMul, Int.reduceNeg, decide_true, decide_false, Int.reduceLT, Int.reduceLE, Int.reduceEq, Int.ofNat_eq_natCast])
local macro_rules | `(tactic| one_place) => `(tactic| simp (config := { decide := false }) only [↓bnd_p, bnd_s, bnd_n, runF_e, endF_nx, endF_rt, exs_c, exs_n, seqF_nx, seqF_rt, seqF_bk, seqF_ct, ex.eq_1, ex.eq_2, ex.eq_3, ex.eq_4, ex.eq_5, ex.eq_6, ex.eq_7, ex.eq_8, ex.eq_9, ex.eq_10, ex.eq_11, ex.eq_12, ex.eq_15, ex.eq_16, ex.eq_17, ex.eq_18, ev.eq_1, ev.eq_2, ev.eq_3, ev.eq_4, ev.eq_5, ev.eq_6, ev.eq_7, ev.eq_8, ev.eq_9, ev.eq_10, ev.eq_11, ev.eq_12, ev.eq_13, ev.eq_14, ev.eq_15, ev.eq_16, ev.eq_17, ev.eq_18, ev.eq_19, ev.eq_20, ev.eq_23, ev.eq_24, ev.eq_25, ev.eq_26, ev.eq_27, evs, evas, evac, evc, evo, evod, evit.eq_1, evit.eq_3, evit.eq_4, evit.eq_5, evit.eq_6, evit.eq_7, evOs, arB_cst, arC_cst, arB_bin, arC_bin, arB_neg, arC_neg, arB_not, arC_not, arB_cmp, arC_cmp, arB_chn, arC_chn, arB_and, arC_and, arB_or, arC_or, arB_ife, arC_ife, arB_tup, arC_tup, arB_lst, arC_lst, arB_dct, arC_dct, arB_idx, arC_idx, arB_slc, arC_slc, arB_stp, arC_stp, arB_cal, arC_cal, arB_blt, arC_blt, arB_mth, arC_mth, arB_isi, arC_isi, arB_lc, arC_lc, arB_dc, arC_dc, arB_pop, arC_pop, arB_app, arC_app, arB_ext, arC_ext, arB_upd, arC_upd, arB_fst, arC_fst, arB_n, arC_n, arN_s, rdA_v, rdA_s, rdAs, hand, ownSl, putB, nodO, isLst, selK, binO, cmpO, ownIx, outs, pairUp_n, pairUp_s, mrg_n, isOwn_v, isOwn_l, isOwn_d, isOO_v, isOO_l, isOO_d, isO_n, isO_b, isNn_n, isNn_i, isNn_b, isNn_s, isNn_t, isNn_l, notB, leO_i, geO_i, ltO_i, gtO_i, eqO, intsO_i, addO_i, addO_t, addO_l, mulO_i, bolO_b, intO_i, isiD, idxO_t, idxO_l, idxO_vl, dctO_d, dctO_v, seqD_l, seqD_t, seqD_vl, lstO_l, lstO_vl, tupO_t, blO, one_e, two_e, absO_i, intB_i, intB_b, onInts_l, onBools_l, min2_i, max2_i, len_t, len_l, len_vl, len_s, setO_l, ixSet_e, List.set_cons_zero, List.set_cons_succ, asgT_n, asgT_t, asgTs_n, asgTs_c, tgOk_n, tgOk_t, tgsOk_n, tgsOk_c, setOs, wipe, back, slcO_t, slcO_vl, slcO_l, itO_l, itO_vl, itO_t, frA, d_v, d_l, d_d, at_z, at_s, set_z, set_s, ixI_0, ixI_1, ixI_2, ixI_3, ixI_4, eqP_i, eqP_s, nc, List.length_cons, List.length_nil, List.map_cons, List.map_nil, List.cons_append, List.nil_append, List.append_nil, rep_s, rep_z, all_rep, Nat.reduceAdd, Nat.reduceSub, Nat.reduceEqDiff, List.getElem?_cons_zero, List.getElem?_cons_succ, ↓Option.bind_eq_bind, Option.bind_some, Option.bind_none, Option.map_some, Option.map_none, Option.pure_def, if_true, if_false, ite_true, ite_false, reduceIte, Bool.not_true, Bool.not_false, Bool.false_eq_true, List.any_cons, List.any_nil, List.contains_cons, List.contains_nil, Bool.or_false, Bool.false_or, Bool.or_self, Bool.and_true, Bool.true_and, Bool.and_self, Bool.and_false, Bool.false_and, Bool.or_true, Bool.true_or, List.nodup_nil, List.nodup_cons, List.mem_cons, List.not_mem_nil, or_false, or_self, not_false_eq_true, and_true, and_self, Nat.reduceEqDiff, Nat.succ_ne_zero, Nat.zero_ne_one, Nat.one_ne_zero, beq_self_eq_true, Nat.reduceBEq, Int.reduceMul, Int.reduceNeg, decide_true, decide_false, Int.reduceLT, Int.reduceLE, Int.reduceEq, Int.ofNat_eq_natCast, *])
section
variable {lw : List Fd} (n : Nat)
/-- the row of a key and its pair -/
def rowOf (p : KvT) : RatT := (p.1.1, p.1.2.1, p.1.2.2, p.2.1, p.2.2)
theorem addO_KV {p : KvT} : addO (.v (encK p.1)) (.v (encV p.2)) = some (.v (encR (rowOf p))) := by
  unfold encK encV
  rw [addO_t]
  exact if_pos (show 3 + 2 ≤ SZ by decide)
theorem idxO_dk {kvs : List KvT} (nd : (kvs.map (·.1)).Nodup) {p : KvT} (h : p ∈ kvs) : idxO (.dct (kvs.map encKV)) (.v (encK p.1)) = some (.v (encV p.2)) := by
  have e : idxO (.dct (kvs.map encKV)) (.v (encK p.1)) = if kOk (kvs.map encKV) (encK p.1) = true then (getK (kvs.map encKV) (encK p.1)).map .v else none := rfl
  rw [e, if_pos (kOk_K _ _), getK_L nd h]
  rfl
theorem rows_of {cs : List Str} {kvs : List KvT} (hk : DcOk cs kvs) : ∀ {zs : List D}, (∀ z ∈ zs, z ∈ kvs.map fun p => encK p.1) → ∃ ps : List KvT, zs = ps.map (fun p => encK p.1) ∧ ∀ p ∈ ps, p ∈ kvs
  | [], _ => ⟨[], rfl, fun _ h => nomatch h⟩
  | z :: zs, h => by
    obtain ⟨p, hp, rfl⟩ := List.mem_map.mp (h z List.mem_cons_self)
    obtain ⟨ps, rfl, hps⟩ := rows_of hk (zs := zs) fun y hy => h y (List.mem_cons_of_mem _ hy)
    exact ⟨p :: ps, rfl, fun q hq => by
      rcases List.mem_cons.mp hq with rfl | hq
      · exact hp
      · exact hps q hq⟩
theorem encK_inj {k l : KyT} (h : encK k = encK l) : k = l := by
  have := eqv_K k l
  rw [h, eqv_K] at this
  simpa using this.symm
theorem rates_i {st : List D} (h : StOk st) {cs : List Str} (hc : CsOk cs) {most : Int} (hm : 1 ≤ most ∧ most ≤ 100000) : ∃ rs : List RatT, ∃ st', callD (FN lw) (n + 2) 47 [.lst st, .v (.list (cs.map .str)), .v (.int most)] = some (.v (.tuple (rs.map encR)), [.lst st', .v (.list (cs.map .str)), .v (.int most)]) ∧
    ((∀ r ∈ rs, RatOk cs r) ∧ rs.length ≤ 20 ∧ Ris (rs.map fun c => .tuple [.str c.1, .str c.2.1, .int c.2.2.1])) ∧ StOk st' := by
  have bm : Bd 64 most := .of64 (by omega) (by omega)
  have h5 := hc.len
  -- the worths
  obtain ⟨ws, r', e1, q, st1, u, rfl, _, h1, hw, hwl⟩ := lcLoop_inv (f := lcF (callD (FN lw) (n + 1)) [13] (.bin .add (.cst (.int 1)) (.cal 42 [(.nm 0), (.nm 2)] [] [])) (.nm 13) [])
    (fun ds ys r => ∃ q : List Str, ∃ st u, r = [some (.lst st), some (.v (.list (cs.map PyData.str))), some (.v (.int most)), none, none, none, none, none, none, none, none, none, none, u, none] ∧ ds = q.map PyData.str ∧ StOk st ∧ Ws ys ∧ ys.length + q.length = cs.length) (cs.map PyData.str) [] [some (.lst st), some (.v (.list (cs.map PyData.str))), some (.v (.int most)), none, none, none, none, none, none, none, none, none, none, none, none]
    ⟨cs, st, none, rfl, rfl, h, (fun _ h => nomatch h), by simp⟩ (fun d ds ys r ⟨q, st, u, er, ed, hs, hy, hl⟩ => by
      subst er
      cases q with
      | nil => cases ed
      | cons c q =>
        rw [List.map_cons] at ed
        obtain ⟨rfl, rfl⟩ := List.cons.inj ed
        rw [List.length_cons] at hl
        obtain ⟨t, st2, e2, t0, t1, h2⟩ := take_i (lw := lw) n hs most (by omega) bm
        refine ⟨some (.int (1 + t)), [some (.lst st2), some (.v (.list (cs.map PyData.str))), some (.v (.int most)), none, none, none, none, none, none, none, none, none, none, some (.v (.str c)), none], ?_, q, st2, _, rfl, rfl, h2, fun d hd => ?_, by simp; omega⟩
        · unfold lcF
          one_item
          rw [e2]
          one_item
        · rcases List.mem_append.mp hd with hd | hd
          · exact hy d hd
          · have hd : d ∈ [PyData.int (1 + t)] := hd
            rw [List.mem_singleton.mp hd]
            exact ⟨_, rfl, by omega, by omega⟩)
  rw [List.nil_append] at hw hwl
  have hwl' : ws.length = cs.length := by
    have : q = [] := by
      rename_i hq
      cases q with
      | nil => rfl
      | cons a b => cases hq
    subst this
    simpa using hwl
  obtain ⟨trip, st2, e2, t0, t1, h2⟩ := take_i (lw := lw) n h1 3 (by decide) (by unfold Bd; decide)
  obtain ⟨st3, kvs, v6, v7, v8, v9, v10, v11, e3, h3, hk, hkl⟩ := rat_loop6 (lw := lw) n hc hm hw hwl' (trip := trip) st2 h2
  -- the keys, sorted
  obtain ⟨zs, s1, s2, s3⟩ := sort_ok key3 (zs := kvs.map fun p => encK p.1) (fun z hz => by
    obtain ⟨p, _, rfl⟩ := List.mem_map.mp hz
    exact ⟨_, _, _, rfl⟩) (by
      have := hk.nd
      rw [show (kvs.map fun p => encK p.1) = (kvs.map (·.1)).map encK from by rw [List.map_map]; rfl]
      exact List.Pairwise.map encK (fun a b ne e => ne (encK_inj e)) this)
  obtain ⟨ps, rfl, hps⟩ := rows_of hk (zs := zs) fun z hz => s2.mem_iff.mp hz
  have so : sortO (.dct (kvs.map encKV)) = some (.lst (ps.map fun p => encK p.1)) := by
    have e : sortO (.dct (kvs.map encKV)) = if ((kvs.map encKV).all fun p => keyS p.1) = true then (sortD ((kvs.map encKV).map (·.1))).map .lst else none := rfl
    rw [e, if_pos, List.map_map]
    · rw [show ((fun x : D × D => x.1) ∘ encKV) = fun p : KvT => encK p.1 from rfl, s1]
      rfl
    · refine List.all_eq_true.mpr fun x hx => ?_
      obtain ⟨p, hp, rfl⟩ := List.mem_map.mp hx
      have ok := hk.ok p hp
      have a := hc.str _ ok.a
      have b := hc.str _ ok.b
      show (((PyData.strOk p.1.1 && decide (p.1.1.length ≤ SZ)) && ((PyData.strOk p.1.2.1 && decide (p.1.2.1.length ≤ SZ)) && (true && true))) && decide (3 ≤ SZ)) = true
      rw [a.1, decide_eq_true a.2, b.1, decide_eq_true b.2]
      decide
  have hlen : ps.length = kvs.length := by
    have := s2.length_eq
    simpa using this
  -- the rows
  obtain ⟨r', e4, ⟨u14, rfl⟩⟩ := lc_filter (f := lcF (callD (FN lw) (n + 1)) [14] (.bin .add (.nm 14) (.idx (.nm 5) (.nm 14))) (.nm 14) []) (fun s => ∃ u, s = [some (.lst st3), some (.v (.list (cs.map PyData.str))), some (.v (.int most)), some (.lst ws), some (.v (.int trip)), some (.dct (kvs.map encKV)), v6, v7, v8, v9, v10, v11, none, none, u]) (enc := fun p : KvT => encK p.1) (p := fun _ => true) (G := fun p => encR (rowOf p)) (xs := ps) (fun p hp s ⟨u, e⟩ => by
    subst e
    have i1 := idxO_dk hk.nd (hps p hp)
    have i2 := addO_KV (p := p)
    refine ⟨[some (.lst st3), some (.v (.list (cs.map PyData.str))), some (.v (.int most)), some (.lst ws), some (.v (.int trip)), some (.dct (kvs.map encKV)), v6, v7, v8, v9, v10, v11, none, none, some (.v (encK p.1))], ?_, ⟨_, rfl⟩⟩
    unfold lcF
    one_item
    rw [i1]
    one_item
    rw [i2]
    one_item) [some (.lst st3), some (.v (.list (cs.map PyData.str))), some (.v (.int most)), some (.lst ws), some (.v (.int trip)), some (.dct (kvs.map encKV)), v6, v7, v8, v9, v10, v11, none, none, none] ⟨_, rfl⟩
  rw [List.filter_eq_self.mpr fun _ _ => rfl] at e4
  refine ⟨ps.map rowOf, st3, ?_, ⟨fun r hr => ?_, by rw [List.length_map]; omega, ?_⟩, h3⟩
  · rw [callS (fd := Lib.b_l_rates) rfl]
    unfold Lib.b_l_rates
    one_item
    rw [lc_run (xs := cs.map PyData.str) (r1 := [some (.lst st), some (.v (.list (cs.map PyData.str))), some (.v (.int most)), none, none, none, none, none, none, none, none, none, none, none, none]) (by one_item) e1]
    one_item
    rw [e2]
    one_item
    rw [for_run (r1 := ratS st2 cs most ws trip [] none none none none none none) (by one_item; rfl) (by one_item) e3]
    unfold ratS
    one_item
    rw [lc_run (xs := ps.map fun p => encK p.1) (r1 := [some (.lst st3), some (.v (.list (cs.map PyData.str))), some (.v (.int most)), some (.lst ws), some (.v (.int trip)), some (.dct (kvs.map encKV)), v6, v7, v8, v9, v10, v11, none, none, none]) (by
      one_item
      rw [so]
      one_item) e4]
    one_item
    rw [List.map_map]
    rfl
  · obtain ⟨p, hp, rfl⟩ := List.mem_map.mp hr
    have ok := hk.ok p (hps p hp)
    exact ⟨⟨hc.code _ ok.a, ok.a⟩, ⟨hc.code _ ok.b, ok.b⟩, ok.lt, ok.d, ok.t, ok.m⟩
  · rw [List.map_map]
    exact s3
end
end Mp
end

/-! ## L8 -/
section
set_option linter.all false
set_option maxRecDepth 100000
namespace Mp
open PySem
local macro_rules | `(tactic| one_item) => `(tactic| simp (config := { decide := false }) only [↓bnd_p, bnd_s, bnd_n, runF_e, endF_nx, endF_rt, exs_c, exs_n, seqF_nx, seqF_rt, seqF_bk, seqF_ct, ex.eq_1, ex.eq_2, ex.eq_3, ex.eq_4, ex.eq_5, ex.eq_6, ex.eq_7, ex.eq_8, ex.eq_9, ex.eq_10, ex.eq_11, ex.eq_12, ex.eq_15, ex.eq_16, ex.eq_17, ex.eq_18, ev.eq_1, ev.eq_2, ev.eq_3, ev.eq_4, ev.eq_5, ev.eq_6, ev.eq_7, ev.eq_8, ev.eq_9, ev.eq_10, ev.eq_11, ev.eq_12, ev.eq_13, ev.eq_14, ev.eq_15, ev.eq_16, ev.eq_17, ev.eq_18, ev.eq_19, ev.eq_20, ev.eq_23, ev.eq_24, ev.eq_25, ev.eq_26, ev.eq_27, evs, evas, evac, evc, evo, evod, evit.eq_1, evit.eq_3, evit.eq_4, evit.eq_5, evit.eq_6, evit.eq_7, evOs, arB_cst, arC_cst, arB_bin, arC_bin, arB_neg, arC_neg, arB_not, arC_not, arB_cmp, arC_cmp, arB_chn, arC_chn, arB_and, arC_and, arB_or, arC_or, arB_ife, arC_ife, arB_tup, arC_tup, arB_lst, arC_lst, arB_dct, arC_dct, arB_idx, arC_idx, arB_slc, arC_slc, arB_stp, arC_stp, arB_cal, arC_cal, arB_blt, arC_blt, arB_mth, arC_mth, arB_isi, arC_isi, arB_lc, arC_lc, arB_dc, arC_dc, arB_pop, arC_pop, arB_app, arC_app, arB_ext, arC_ext, arB_upd, arC_upd, arB_fst, arC_fst, arB_n, arC_n, arN_s, rdA_v, rdA_s, rdAs, hand, ownSl, putB, nodO, isLst, selK, binO, cmpO, ownIx, outs, pairUp_n, pairUp_s, mrg_n, isOwn_v, isOwn_l, isOwn_d, isOO_v, isOO_l, isOO_d, isO_n, isO_b, isNn_n, isNn_i, isNn_b, isNn_s, isNn_t, isNn_l, notB, leO_i, geO_i, ltO_i, gtO_i, eqO, intsO_i, addO_i, addO_t, addO_l, mulO_i, bolO_b, intO_i, isiD, idxO_t, idxO_l, idxO_vl, dctO_d, dctO_v, seqD_l, seqD_t, seqD_vl, lstO_l, lstO_vl, tupO_t, blO, one_e, two_e, absO_i, intB_i, intB_b, onInts_l, onBools_l, min2_i, max2_i, len_t, len_l, len_vl, len_s, setO_l, ixSet_e, List.set_cons_zero, List.set_cons_succ, asgT_n, asgT_t, asgTs_n, asgTs_c, tgOk_n, tgOk_t, tgsOk_n, tgsOk_c, setOs, wipe, back, slcO_t, slcO_vl, slcO_l, itO_l, itO_vl, itO_t, frA, d_v, d_l, d_d, at_z, at_s, set_z, set_s, ixI_0, ixI_1, ixI_2, ixI_3, ixI_4, eqP_i, eqP_s, nc, List.length_cons, List.length_nil, List.map_cons, List.map_nil, List.cons_append, List.nil_append, List.append_nil, rep_s, rep_z, all_rep, Nat.reduceAdd, Nat.reduceSub, Nat.reduceEqDiff, List.getElem?_cons_zero, List.getElem?_cons_succ, ↓Option.bind_eq_bind, Option.bind_some, Option.bind_none, Option.map_some, Option.map_none, Option.pure_def, if_true, if_false, ite_true, ite_false, reduceIte, Bool.not_true, Bool.not_false, Bool.false_eq_true, List.any_cons, List.any_nil, List.contains_cons, List.contains_nil, Bool.or_false, Bool.false_or, Bool.or_self, Bool.and_true, Bool.true_and, Bool.and_self, Bool.and_false, Bool.false_and, Bool.or_true, Bool.true_or, List.nodup_nil, List.nodup_cons, List.mem_cons, List.not_mem_nil, or_false, or_self, not_false_eq_true, and_true, and_self, Nat.reduceEqDiff, Nat.succ_ne_zero, Nat.zero_ne_one, Nat.one_ne_zero, beq_self_eq_true, Nat.reduceBEq, Int.reduceMul, Int.reduceNeg, decide_true, decide_false, Int.reduceLT, Int.reduceLE, Int.reduceEq, Int.ofNat_eq_natCast])
local macro_rules | `(tactic| one_place) => `(tactic| simp (config := { decide := false }) only [↓bnd_p, bnd_s, bnd_n, runF_e, endF_nx, endF_rt, exs_c, exs_n, seqF_nx, seqF_rt, seqF_bk, seqF_ct, ex.eq_1, ex.eq_2, ex.eq_3, ex.eq_4, ex.eq_5, ex.eq_6, ex.eq_7, ex.eq_8, ex.eq_9, ex.eq_10, ex.eq_11, ex.eq_12, ex.eq_15, ex.eq_16, ex.eq_17, ex.eq_18, ev.eq_1, ev.eq_2, ev.eq_3, ev.eq_4, ev.eq_5, ev.eq_6, ev.eq_7, ev.eq_8, ev.eq_9, ev.eq_10, ev.eq_11, ev.eq_12, ev.eq_13, ev.eq_14, ev.eq_15, ev.eq_16, ev.eq_17, ev.eq_18, ev.eq_19, ev.eq_20, ev.eq_23, ev.eq_24, ev.eq_25, ev.eq_26, ev.eq_27, evs, evas, evac, evc, evo, evod, evit.eq_1, evit.eq_3, evit.eq_4, evit.eq_5, evit.eq_6, evit.eq_7, evOs, arB_cst, arC_cst, arB_bin, arC_bin, arB_neg, arC_neg, arB_not, arC_not, arB_cmp, arC_cmp, arB_chn, arC_chn, arB_and, arC_and, arB_or, arC_or, arB_ife, arC_ife, arB_tup, arC_tup, arB_lst, arC_lst, arB_dct, arC_dct, arB_idx, arC_idx, arB_slc, arC_slc, arB_stp, arC_stp, arB_cal, arC_cal, arB_blt, arC_blt, arB_mth, arC_mth, arB_isi, arC_isi, arB_lc, arC_lc, arB_dc, arC_dc, arB_pop, arC_pop, arB_app, arC_app, arB_ext, arC_ext, arB_upd, arC_upd, arB_fst, arC_fst, arB_n, arC_n, arN_s, rdA_v, rdA_s, rdAs, hand, ownSl, putB, nodO, isLst, selK, binO, cmpO, ownIx, outs, pairUp_n, pairUp_s, mrg_n, isOwn_v, isOwn_l, isOwn_d, isOO_v, isOO_l, isOO_d, isO_n, isO_b, isNn_n, isNn_i, isNn_b, isNn_s, isNn_t, isNn_l, notB, leO_i, geO_i, ltO_i, gtO_i, eqO, intsO_i, addO_i, addO_t, addO_l, mulO_i, bolO_b, intO_i, isiD, idxO_t, idxO_l, idxO_vl, dctO_d, dctO_v, seqD_l, seqD_t, seqD_vl, lstO_l, lstO_vl, tupO_t, blO, one_e, two_e, absO_i, intB_i, intB_b, onInts_l, onBools_l, min2_i, max2_i, len_t, len_l, len_vl, len_s, setO_l, ixSet_e, List.set_cons_zero, List.set_cons_succ, asgT_n, asgT_t, asgTs_n, asgTs_c, tgOk_n, tgOk_t, tgsOk_n, tgsOk_c, setOs, wipe, back, slcO_t, slcO_vl, slcO_l, itO_l, itO_vl, itO_t, frA, d_v, d_l, d_d, at_z, at_s, set_z, set_s, ixI_0, ixI_1, ixI_2, ixI_3, ixI_4, eqP_i, eqP_s, nc, List.length_cons, List.length_nil, List.map_cons, List.map_nil, List.cons_append, List.nil_append, List.append_nil, rep_s, rep_z, all_rep, Nat.reduceAdd, Nat.reduceSub, Nat.reduceEqDiff, List.getElem?_cons_zero, List.getElem?_cons_succ, ↓Option.bind_eq_bind, Option.bind_some, Option.bind_none, Option.map_some, Option.map_none, Option.pure_def, if_true, if_false, ite_true, ite_false, reduceIte, Bool.not_true, Bool.not_false, Bool.false_eq_true, List.any_cons, List.any_nil, List.contains_cons, List.contains_nil, Bool.or_false, Bool.false_or, Bool.or_self, Bool.and_true, Bool.true_and, Bool.and_self, Bool.and_false, Bool.false_and, Bool.or_true, Bool.true_or, List.nodup_nil, List.nodup_cons, List.mem_cons, List.not_mem_nil, or_false, or_self, not_false_eq_true, and_true, and_self, Nat.reduceEqDiff, Nat.succ_ne_zero, Nat.zero_ne_one, Nat.one_ne_zero, beq_self_eq_true, Nat.reduceBEq, Int.reduceMul, Int.reduceNeg, decide_true, decide_false, Int.reduceLT, Int.reduceLE, Int.reduceEq, Int.ofNat_eq_natCast, *])
theorem ris_ints : ∀ {zs : List Int}, zs.Pairwise (· < ·) → Ris (zs.map .int)
  | [], _ => trivial
  | [_], _ => trivial
  | a :: b :: r, h => by
    rw [List.pairwise_cons] at h
    exact ⟨by rw [ltO_i, decide_eq_true (h.1 b List.mem_cons_self)], ris_ints h.2⟩
theorem ris_strs : ∀ {zs : List Str}, zs.Pairwise ltS → Ris (zs.map .str)
  | [], _ => trivial
  | [_], _ => trivial
  | a :: b :: r, h => by
    rw [List.pairwise_cons] at h
    exact ⟨by rw [ltO_s, decide_eq_true (show a.cps.toList < b.cps.toList from h.1 b List.mem_cons_self)], ris_strs h.2⟩
section
variable {lw : List Fd} (n : Nat)
def words6 : List Str := ["down", "up", "in", "out", "even", "far"]
theorem words_in : ∀ w ∈ words6, w ∈ customs6 := by decide +kernel
theorem customs_i {st : List D} (h : StOk st) : ∃ cu : List CusT, ∃ st', callD (FN lw) (n + 2) 48 [.lst st] = some (.v (.tuple (cu.map encU)), [.lst st']) ∧
    ((∀ c ∈ cu, CusOk c) ∧ cu.length ≤ 5 ∧ Ris (cu.map fun c => .int c.1) ∧ (cu = [] ∨ ∃ s r, cu = (0, s) :: r)) ∧ StOk st' := by
  obtain ⟨a, st1, e1, a0, a1, h1⟩ := take_i (lw := lw) n h 4 (by decide) (by unfold Bd; decide)
  -- the days
  obtain ⟨ys, r', e2, st2, is, u, rfl, h2, rfl, hi, hil⟩ := lcLoop_inv (f := lcF (callD (FN lw) (n + 1)) [4] (.bin .add (.cst (.int 1)) (.cal 42 [(.nm 0), (.cst (.int 60))] [] [])) (.nm 4) [])
    (fun ds ys r => ∃ st, ∃ is : List Int, ∃ u, r = [some (.lst st), none, none, none, u, none] ∧ StOk st ∧ ys = is.map PyData.int ∧ (∀ i ∈ is, 1 ≤ i ∧ i ≤ 60) ∧ is.length + ds.length ≤ 3) (rngD 0 a) [] [some (.lst st1), none, none, none, none, none]
    ⟨st1, [], none, rfl, h1, rfl, (fun _ h => nomatch h), by rw [rngD_len]; simp; omega⟩ (fun d ds ys r ⟨st, is, u, er, hs, ey, hi, hl⟩ => by
      subst er ey
      rw [List.length_cons] at hl
      obtain ⟨t, st3, e3, t0, t1, h3⟩ := take_i (lw := lw) n hs 60 (by decide) (by unfold Bd; decide)
      refine ⟨some (.int (1 + t)), [some (.lst st3), none, none, none, some (.v d), none], ?_, st3, is ++ [1 + t], _, rfl, h3, by simp, fun i hm => ?_, by rw [List.length_append, List.length_singleton]; omega⟩
      · unfold lcF
        one_item
        rw [e3]
        one_item
      · rcases List.mem_append.mp hm with hm | hm
        · exact hi i hm
        · rw [List.mem_singleton.mp hm]
          omega)
  have hil' : is.length ≤ 3 := by simpa using hil
  -- sorted
  obtain ⟨zs, hz⟩ : ∃ zs, zs = ((0 :: is).eraseDups.mergeSort fun a b : Int => decide (a ≤ b)) := ⟨_, rfl⟩
  have hset : onInts setI (.lst (.int 0 :: is.map .int)) = some (.lst (zs.map .int)) := by
    have : (PyData.int 0 :: is.map PyData.int) = (0 :: is).map PyData.int := rfl
    rw [this, onInts_l]
    unfold setI
    rw [if_pos (by rw [List.length_cons]; omega), ← hz]
  have hr : zs.Pairwise (· < ·) := hz ▸ setI_rising (0 :: is)
  have hmem : ∀ k, k ∈ zs ↔ k ∈ 0 :: is := fun k => hz ▸ setI_mem (0 :: is) k
  have hzl : zs.length ≤ 4 := by
    have h1 : zs.length = (0 :: is).eraseDups.length := by rw [hz, List.length_mergeSort]
    have h2 : (0 :: is).eraseDups.length ≤ (0 :: is).length := by
      have nd := nodup_eraseDups _ (0 :: is) (Nat.le_refl _)
      exact nd.length_le_of_subset fun x hx => List.mem_eraseDups.mp hx
    rw [List.length_cons] at h2
    omega
  -- the words
  obtain ⟨qs, r', e4, st4, rest, cu, u, rfl, _, h4, rfl, hcu, hcd⟩ := lcLoop_inv (f := lcF (callD (FN lw) (n + 1)) [5] (.tup [(.nm 5), (.idx (.nm 2) (.cal 42 [(.nm 0), (.cst (.int 6))] [] []))]) (.nm 5) [])
    (fun ds ys r => ∃ st, ∃ rest : List Int, ∃ cu : List CusT, ∃ u, r = [some (.lst st), some (.v (.list (zs.map PyData.int))), some (.lst [.str "down", .str "up", .str "in", .str "out", .str "even", .str "far"]), none, none, u] ∧ ds = rest.map PyData.int ∧ StOk st ∧ ys = cu.map encU ∧ (∀ c ∈ cu, c.2 ∈ customs6) ∧ cu.map (·.1) ++ rest = zs) (zs.map .int) [] [some (.lst st2), some (.v (.list (zs.map PyData.int))), some (.lst [.str "down", .str "up", .str "in", .str "out", .str "even", .str "far"]), none, none, none]
    ⟨st2, zs, [], none, rfl, rfl, h2, rfl, (fun _ h => nomatch h), rfl⟩ (fun d ds ys r ⟨st, rest, cu, u, er, ed, hs, ey, hcu, hcd⟩ => by
      subst er ey
      cases rest with
      | nil => cases ed
      | cons z rest =>
        rw [List.map_cons] at ed
        obtain ⟨rfl, rfl⟩ := List.cons.inj ed
        obtain ⟨t, st3, e3, t0, t1, h3⟩ := take_i (lw := lw) n hs 6 (by decide) (by unfold Bd; decide)
        obtain ⟨k, y, q1, q2, hm⟩ := pick (m := 6) (words6.map PyData.str) rfl t0 t1
        obtain ⟨w, hw, rfl⟩ := List.mem_map.mp hm
        refine ⟨some (encU (z, w)), [some (.lst st3), some (.v (.list (zs.map PyData.int))), some (.lst [.str "down", .str "up", .str "in", .str "out", .str "even", .str "far"]), none, none, some (.v (.int z))], ?_, st3, rest, cu ++ [(z, w)], _, rfl, rfl, h3, by simp, fun c hc => ?_, by rw [List.map_append, List.append_assoc]; exact hcd⟩
        · unfold lcF
          one_item
          rw [e3]
          one_item
          rw [q1]
          one_item
          rw [show ([.str "down", .str "up", .str "in", .str "out", .str "even", .str "far"] : List D)[k]? = some (.str w) from q2]
          one_item
          rfl
        · rcases List.mem_append.mp hc with hc | hc
          · exact hcu c hc
          · rw [List.mem_singleton.mp hc]
            exact words_in w hw)
  have hrest : rest = [] := by
    rename_i hq
    cases rest with
    | nil => rfl
    | cons a b => cases hq
  subst hrest
  rw [List.append_nil] at hcd
  have hday : ∀ c ∈ cu, 0 ≤ c.1 ∧ c.1 ≤ 9999 := fun c hc => by
    have : c.1 ∈ zs := hcd ▸ List.mem_map_of_mem hc
    rcases List.mem_cons.mp ((hmem _).mp this) with e | e
    · omega
    · have := hi _ e
      omega
  have hlen : cu.length ≤ 5 := by
    have : (cu.map (·.1)).length = zs.length := by rw [hcd]
    rw [List.length_map] at this
    omega
  have h0 : cu = [] ∨ ∃ s r, cu = (0, s) :: r := by
    cases cu with
    | nil => exact .inl rfl
    | cons c r =>
      right
      obtain ⟨d, s⟩ := c
      refine ⟨s, r, ?_⟩
      have hz0 : (0 : Int) ∈ zs := (hmem 0).mpr List.mem_cons_self
      rw [← hcd] at hz0 hr
      rw [List.map_cons] at hz0 hr
      rw [List.pairwise_cons] at hr
      have hd := (hday (d, s) List.mem_cons_self).1
      rcases List.mem_cons.mp hz0 with e | e
      · have e : (0 : Int) = d := e
        rw [← e]
      · have := hr.1 0 e
        simp only at this hd
        omega
  obtain ⟨b, st5, e5, b0, b1, h5⟩ := take_i (lw := lw) n h4 4 (by decide) (by unfold Bd; decide)
  have fin : ∀ cu' : List CusT, (cu' = cu ∨ cu' = []) → ((∀ c ∈ cu', CusOk c) ∧ cu'.length ≤ 5 ∧ Ris (cu'.map fun c => .int c.1) ∧ (cu' = [] ∨ ∃ s r, cu' = (0, s) :: r)) := fun cu' e => by
    rcases e with rfl | rfl
    · refine ⟨fun c hc => ⟨hday c hc, hcu c hc⟩, hlen, ?_, h0⟩
      have := ris_ints hr
      rw [← hcd, List.map_map] at this
      exact this
    · exact ⟨(fun _ h => nomatch h), by simp, trivial, .inl rfl⟩
  have main : callD (FN lw) (n + 2) 48 [.lst st] = some (.v (.tuple (if 0 < b then cu.map encU else [])), [.lst st5]) := by
    rw [callS (fd := Lib.b_l_customs) rfl]
    unfold Lib.b_l_customs
    one_item
    rw [lc_run (xs := rngD 0 a) (r1 := [some (.lst st1), none, none, none, none, none]) (evit_rng (i := 0) (j := a) (r1 := [some (.lst st), none, none, none, none, none]) (by one_item) (by
      one_item
      rw [e1]
      one_item) (by decide) (by omega)) e2]
    one_item
    rw [if_pos (show 1 + (is.map PyData.int).length ≤ SZ from Nat.le_trans (by rw [List.length_map]; omega : 1 + (is.map PyData.int).length ≤ 10) (by decide))]
    one_item
    rw [hset]
    one_item
    rw [lc_run (xs := zs.map PyData.int) (r1 := [some (.lst st2), some (.v (.list (zs.map PyData.int))), some (.lst [.str "down", .str "up", .str "in", .str "out", .str "even", .str "far"]), none, none, none]) (by one_item) e4]
    one_item
    rw [e5]
    one_item
    by_cases hb : 0 < b
    · rw [decide_eq_true hb, if_pos hb]
      one_item
    · rw [decide_eq_false hb, if_neg hb]
      one_item
  by_cases hb : 0 < b
  · rw [if_pos hb] at main
    exact ⟨cu, st5, main, fin cu (.inl rfl), h5⟩
  · rw [if_neg hb] at main
    exact ⟨[], st5, main, fin [] (.inr rfl), h5⟩
/-! ### the rules -/
def taxes3 : List (List TaxT) := [[], [("vat", 0, 19, 100, "on")], [("vat", 3, 0, 1, "within")]]
theorem tax_ok : ∀ tx ∈ taxes3, (∀ c ∈ tx, TaxOk c) ∧ tx.length ≤ 12 ∧ Ris (tx.map fun c => .tuple [.str c.1, .int c.2.1]) := fun tx h => by
  have l : lettersB "vat" = true ∧ 1 ≤ Str.length "vat" ∧ Str.length "vat" ≤ 8 := by decide +kernel
  simp only [taxes3, List.mem_cons, List.not_mem_nil, or_false] at h
  rcases h with rfl | rfl | rfl
  · exact ⟨(fun _ h => nomatch h), by decide, trivial⟩
  · refine ⟨fun c hc => ?_, by decide, trivial⟩
    rw [List.mem_singleton.mp hc]
    exact ⟨l, by decide, by decide, by decide, .inl rfl⟩
  · refine ⟨fun c hc => ?_, by decide, trivial⟩
    rw [List.mem_singleton.mp hc]
    exact ⟨l, by decide, by decide, by decide, .inr rfl⟩
theorem rules_i {st : List D} (h : StOk st) {most : Int} (hm : 1 ≤ most ∧ most ≤ 100000) : ∃ R : RulesT, ∃ st', callD (FN lw) (n + 3) 49 [.lst st, .v (.int most)] = some (.v R.enc, [.lst st', .v (.int most)]) ∧ RulesOk R ∧ StOk st' := by
  obtain ⟨cs, st1, e1, hcs, h1⟩ := codes_i (lw := lw) n h
  have hc : CsOk cs := ⟨hcs.1, hcs.2⟩
  obtain ⟨ys, r', e2, q, st2, cu, u, rfl, _, h2, rfl, hcu, hcd⟩ := lcLoop_inv (f := lcF (callD (FN lw) (n + 2)) [5] (.tup [(.nm 5), (.cal 42 [(.nm 0), (.cst (.int 4))] [] []), (.bin .add (.cst (.int 1)) (.cal 42 [(.nm 0), (.cst (.int 100))] [] []))]) (.nm 5) [])
    (fun ds ys r => ∃ q : List Str, ∃ st, ∃ cu : List CurT, ∃ u, r = [some (.lst st), some (.v (.int most)), some (.v (.list (cs.map PyData.str))), none, none, u] ∧ ds = q.map PyData.str ∧ StOk st ∧ ys = cu.map encC ∧ (∀ c ∈ cu, c.1 ∈ cs ∧ (0 ≤ c.2.1 ∧ c.2.1 ≤ 3) ∧ (1 ≤ c.2.2 ∧ c.2.2 ≤ 100)) ∧ cu.map (·.1) ++ q = cs) (cs.map PyData.str) [] [some (.lst st1), some (.v (.int most)), some (.v (.list (cs.map PyData.str))), none, none, none]
    ⟨cs, st1, [], none, rfl, rfl, h1, rfl, (fun _ h => nomatch h), rfl⟩ (fun d ds ys r ⟨q, st, cu, u, er, ed, hs, ey, hcu, hcd⟩ => by
      subst er ey
      cases q with
      | nil => cases ed
      | cons c q =>
        rw [List.map_cons] at ed
        obtain ⟨rfl, rfl⟩ := List.cons.inj ed
        obtain ⟨t, st3, e3, t0, t1, h3⟩ := take_i (lw := lw) (n + 1) hs 4 (by decide) (by unfold Bd; decide)
        obtain ⟨v, st4, e4, v0, v1, h4⟩ := take_i (lw := lw) (n + 1) h3 100 (by decide) (by unfold Bd; decide)
        refine ⟨some (encC (c, t, 1 + v)), [some (.lst st4), some (.v (.int most)), some (.v (.list (cs.map PyData.str))), none, none, some (.v (.str c))], ?_, q, st4, cu ++ [(c, t, 1 + v)], _, rfl, rfl, h4, by simp, fun x hx => ?_, by rw [List.map_append, List.append_assoc]; exact hcd⟩
        · unfold lcF
          one_item
          rw [e3]
          one_item
          rw [e4]
          one_item
          rfl
        · rcases List.mem_append.mp hx with hx | hx
          · exact hcu x hx
          · rw [List.mem_singleton.mp hx]
            refine ⟨?_, ⟨t0, by show t ≤ 3; omega⟩, ⟨by show 1 ≤ 1 + v; omega, by show 1 + v ≤ 100; omega⟩⟩
            rw [← hcd]
            exact List.mem_append_right _ List.mem_cons_self)
  have hq : q = [] := by
    rename_i hq
    cases q with
    | nil => rfl
    | cons a b => cases hq
  subst hq
  rw [List.append_nil] at hcd
  obtain ⟨t, st3, e3, t0, t1, h3⟩ := take_i (lw := lw) (n + 1) h2 3 (by decide) (by unfold Bd; decide)
  obtain ⟨k, y, q1, q2, hmem⟩ := pick (m := 3) (taxes3.map fun tx => .tuple (tx.map encT)) rfl t0 t1
  obtain ⟨tx, htx, rfl⟩ := List.mem_map.mp hmem
  obtain ⟨rs, st4, e4, ⟨hr1, hr2, hr3⟩, h4⟩ := rates_i (lw := lw) n h3 hc hm
  obtain ⟨cus, st5, e5, ⟨hu1, hu2, hu3, hu4⟩, h5⟩ := customs_i (lw := lw) n h4
  obtain ⟨x1, x2, x3⟩ := tax_ok tx htx
  have hcodes : codes ⟨cu, rs, tx, cus⟩ = cs := hcd
  refine ⟨⟨cu, rs, tx, cus⟩, st5, ?_, ⟨fun c hc' => ⟨hc.code _ (hcu c hc').1, (hcu c hc').2.1, (hcu c hc').2.2⟩, ?_, ?_, by rw [hcodes]; exact hr1, hr2, hr3, x1, x2, x3, hu1, hu2, hu3, hu4⟩, h5⟩
  · rw [callS (fd := Lib.b_l_rules) rfl]
    unfold Lib.b_l_rules RulesT.enc
    one_item
    rw [e1]
    one_item
    rw [lc_run (xs := cs.map PyData.str) (r1 := [some (.lst st1), some (.v (.int most)), some (.v (.list (cs.map PyData.str))), none, none, none]) (by one_item) e2]
    one_item
    rw [e3]
    one_item
    rw [q1]
    one_item
    rw [show ([.tuple [], .tuple [.tuple [.str "vat", .int 0, .int 19, .int 100, .str "on"]], .tuple [.tuple [.str "vat", .int 3, .int 0, .int 1, .str "within"]]] : List D)[k]? = some (.tuple (tx.map encT)) from q2]
    one_item
    rw [e4]
    one_item
    rw [e5]
    one_item
  · have : (cu.map (·.1)).length = cs.length := by rw [hcd]
    rw [List.length_map] at this
    have := hc.len
    show 1 ≤ cu.length ∧ cu.length ≤ 5
    omega
  · have := ris_strs hc.lt
    rw [← hcd, List.map_map] at this
    exact this
end
end Mp
end

/-! ## M2 -/
section
set_option linter.all false
set_option maxRecDepth 100000
namespace Mp
open PySem
/-! ### fractions as rationals -/
def val (p : Int × Int) : Rat := (p.1 : Rat) / (p.2 : Rat)
theorem cast_ne {b : Int} (h : 0 < b) : (b : Rat) ≠ 0 := by
  have : b ≠ 0 := by omega
  simpa using this
theorem red_rat {t b : Int} (hb : 0 < b) : red t b = ((Rat.divInt t b).num, ((Rat.divInt t b).den : Int)) := by
  unfold red gI
  have e : (b.gcd t) = Nat.gcd t.natAbs b.natAbs := Nat.gcd_comm _ _
  rw [Rat.num_divInt, Rat.den_divInt, if_neg (by omega), e, Int.sign_eq_one_of_pos hb, Int.one_mul]
  congr 1
  rw [Int.natCast_ediv]
  congr 1
  omega
theorem red_of {t b u d : Int} (hb : 0 < b) (hd : 0 < d) (h : (t : Rat) / b = (u : Rat) / d) : red t b = red u d := by
  rw [red_rat hb, red_rat hd]
  rw [← Rat.divInt_eq_div, ← Rat.divInt_eq_div] at h
  rw [h]
theorem red_val {t b : Int} (hb : 0 < b) : val (red t b) = (t : Rat) / b := by
  have h2 := red_pos (t := t) hb
  have e := red_eq (t := t) (b := b)
  have hg := cast_ne (gI_pos (t := t) hb)
  have h2' := cast_ne h2
  have e1 : (t : Rat) = ((red t b).1 : Rat) * (gI t b : Rat) := by rw [← Rat.intCast_mul, ← e.1]
  have e2 : (b : Rat) = ((red t b).2 : Rat) * (gI t b : Rat) := by rw [← Rat.intCast_mul, ← e.2]
  unfold val
  rw [e1, e2]
  grind
/-- in lowest terms -/
def Rd (p : Int × Int) : Prop := 0 < p.2 ∧ red p.1 p.2 = p
theorem red_rd {t b : Int} (hb : 0 < b) : Rd (red t b) := ⟨red_pos hb, red_of (red_pos hb) hb (red_val hb)⟩
theorem rd_inj {p q : Int × Int} (hp : Rd p) (hq : Rd q) (h : val p = val q) : p = q := by
  rw [← hp.2, ← hq.2]
  exact red_of hp.1 hq.1 h
theorem rd_int (x : Int) : Rd (x, 1) := by
  refine ⟨Int.one_pos, ?_⟩
  show (x / gI x 1, 1 / gI x 1) = (x, 1)
  have : gI x 1 = 1 := by
    unfold gI
    simp
  rw [this, Int.ediv_one]
  rfl
theorem val_int (x : Int) : val (x, 1) = (x : Rat) := by
  unfold val
  grind
theorem red_neg {t b : Int} (hb : 0 < b) : red (0 - t) b = (0 - (red t b).1, (red t b).2) := by
  have g : gI (0 - t) b = gI t b := by
    unfold gI
    rw [show (0 - t).natAbs = t.natAbs by omega]
  unfold red
  rw [g]
  congr 1
  have hd := gI_l t b
  have hp := gI_pos (t := t) hb
  obtain ⟨k, hk⟩ := hd
  show (0 - t) / gI t b = 0 - t / gI t b
  generalize gI t b = G at *
  rw [hk, show (0 : Int) - G * k = G * (0 - k) by rw [Int.mul_sub, Int.mul_zero], Int.mul_ediv_cancel_left _ (by omega), Int.mul_ediv_cancel_left _ (by omega)]
theorem red_zero {d : Int} (hd : 0 < d) : red 0 d = (0, 1) := by
  have := red_of (t := 0) (u := 0) hd Int.one_pos (by grind)
  rw [this]
  exact (rd_int 0).2
theorem red_one (x : Int) : red x 1 = (x, 1) := (rd_int x).2
/-! ### worths -/
def valL (ps : List (Int × Int)) : Rat := ps.foldr (fun p r => val p * r) 1
theorem rt_ne {p : Int × Int} (h : RtOk p) : (p.2 : Rat) ≠ 0 := cast_ne h.p2
theorem worth_val : ∀ {ps : List (Int × Int)} {q : Int × Int}, (∀ p ∈ ps, RtOk p) → 0 < q.2 → 0 < (worthL q ps).2 ∧ val (worthL q ps) = val q * valL ps
  | [], q, _, h => ⟨h, by show val q = val q * 1; grind⟩
  | p :: ps, q, hp, h => by
    have ok := hp p List.mem_cons_self
    have pos := Int.mul_pos h ok.p2
    obtain ⟨i1, i2⟩ := worth_val (ps := ps) (q := red (q.1 * p.1) (q.2 * p.2)) (fun r hr => hp r (List.mem_cons_of_mem _ hr)) (red_pos pos)
    refine ⟨i1, ?_⟩
    show val (worthL (red (q.1 * p.1) (q.2 * p.2)) ps) = val q * (val p * valL ps)
    rw [i2, red_val pos]
    have n1 := cast_ne h
    have n2 := rt_ne ok
    unfold val
    rw [Rat.intCast_mul, Rat.intCast_mul]
    grind
theorem worth_rd : ∀ {ps : List (Int × Int)} {q : Int × Int}, (∀ p ∈ ps, RtOk p) → 0 < q.2 → (ps ≠ [] ∨ Rd q) → Rd (worthL q ps)
  | [], q, _, h, r => r.elim (fun z => absurd rfl z) id
  | p :: ps, q, hp, h, _ => worth_rd (ps := ps) (q := red (q.1 * p.1) (q.2 * p.2)) (fun r hr => hp r (List.mem_cons_of_mem _ hr)) (red_pos (Int.mul_pos h (hp p List.mem_cons_self).p2)) (.inr (red_rd (Int.mul_pos h (hp p List.mem_cons_self).p2)))
/-! ### a step -/
theorem ex_val {x : Int} {p : Int × Int} (hp : RtOk p) : val (exI x p) = (x : Rat) * val p := by
  have pos : 0 < 1 * p.2 := by have := hp.p2; omega
  have n := rt_ne hp
  unfold exI
  rw [red_val pos, Rat.intCast_mul, Rat.intCast_mul]
  unfold val
  grind
theorem rest_val {c : Str} {x : Int} {p : Int × Int} (hp : RtOk p) : 0 < (restI c (exI x p).1 (exI x p).2 1).2 ∧ val (restI c (exI x p).1 (exI x p).2 1) = (x : Rat) * val p - (stpI c x p : Rat) := by
  have pos : 0 < 1 * p.2 := by have := hp.p2; omega
  have e0 : 0 < (exI x p).2 := red_pos pos
  have r0 : Rd (exI x p) := red_rd pos
  have e2 : red (exI x p).1 (exI x p).2 = exI x p := r0.2
  unfold restI
  rw [e2]
  have d0 : 0 < (exI x p).2 * 1 := by omega
  refine ⟨red_pos d0, ?_⟩
  rw [red_val d0, ← ex_val hp]
  have n := cast_ne e0
  unfold val stpI
  rw [Int.mul_one, Int.mul_one]
  rw [show (((exI x p).1 - toldI c (exI x p).1 (exI x p).2 1 * (exI x p).2 : Int) : Rat) = ((exI x p).1 : Rat) - (toldI c (exI x p).1 (exI x p).2 1 : Rat) * ((exI x p).2 : Rat) by rw [Rat.intCast_sub, Rat.intCast_mul]]
  grind
/-- told and rest together -/
theorem told_rest {c : Str} {x : Int} {p : Int × Int} (hp : RtOk p) : red (stpI c x p * (restI c (exI x p).1 (exI x p).2 1).2 + (restI c (exI x p).1 (exI x p).2 1).1 * 1) (1 * (restI c (exI x p).1 (exI x p).2 1).2) = exI x p := by
  obtain ⟨h1, h2⟩ := rest_val (c := c) (x := x) hp
  have pos : 0 < 1 * p.2 := by have := hp.p2; omega
  have r0 : Rd (exI x p) := red_rd pos
  have ev := ex_val (x := x) hp
  generalize restI c (exI x p).1 (exI x p).2 1 = r at *
  have d0 : 0 < 1 * r.2 := by omega
  refine rd_inj (red_rd d0) r0 ?_
  rw [red_val d0, ev, Int.mul_one, Int.one_mul]
  have n := cast_ne h1
  rw [show ((stpI c x p * r.2 + r.1 : Int) : Rat) = (stpI c x p : Rat) * (r.2 : Rat) + (r.1 : Rat) by rw [Rat.intCast_add, Rat.intCast_mul]]
  unfold val at h2 ⊢
  grind
/-- the rest is within a coin -/
theorem rest_small {c : Str} {x : Int} {p : Int × Int} (hp : RtOk p) : -1 * (restI c (exI x p).1 (exI x p).2 1).2 < (restI c (exI x p).1 (exI x p).2 1).1 * 1 ∧ (restI c (exI x p).1 (exI x p).2 1).1 * 1 < 1 * (restI c (exI x p).1 (exI x p).2 1).2 := by
  have pos : 0 < 1 * p.2 := by have := hp.p2; omega
  have e0 : 0 < (exI x p).2 := red_pos pos
  have r0 : Rd (exI x p) := red_rd pos
  have e2 : red (exI x p).1 (exI x p).2 = exI x p := r0.2
  unfold restI
  rw [e2]
  have d0 : 0 < (exI x p).2 * 1 := by omega
  generalize exI x p = e at *
  have hw : toldI c e.1 e.2 1 = e.1 / e.2 ∨ toldI c e.1 e.2 1 = 0 - (0 - e.1) / e.2 := by
    unfold toldI
    rw [Int.mul_one, Int.mul_one]
    exact whole_two e0
  have hN : -(e.2 * 1) < e.1 * 1 - toldI c e.1 e.2 1 * e.2 ∧ e.1 * 1 - toldI c e.1 e.2 1 * e.2 < e.2 * 1 := by
    have b1 := rem_b (t := e.1) e0
    have b2 := rem_b (t := 0 - e.1) e0
    rcases hw with w | w <;> rw [w]
    · omega
    · rw [Int.sub_mul]
      omega
  generalize e.1 * 1 - toldI c e.1 e.2 1 * e.2 = N at *
  generalize e.2 * 1 = D at *
  have q := red_eq (t := N) (b := D)
  have g := gI_pos (t := N) d0
  generalize gI N D = G at *
  generalize red N D = r at *
  obtain ⟨q1, q2⟩ := q
  rw [q1, q2] at hN
  constructor
  · have h : G * (-1 * r.2) < G * r.1 := by
      have := hN.1
      rw [Int.mul_comm r.1 G, Int.mul_comm r.2 G] at this
      rw [show G * (-1 * r.2) = -(G * r.2) by rw [Int.neg_mul, Int.one_mul, Int.mul_neg]]
      exact this
    rw [Int.mul_one]
    exact (mul_lt_iff g).mp h
  · have h : G * r.1 < G * r.2 := by
      have := hN.2
      rw [Int.mul_comm r.1 G, Int.mul_comm r.2 G] at this
      exact this
    rw [Int.mul_one, Int.one_mul]
    exact (mul_lt_iff g).mp h
/-! ### the roundings of a road, each led on to the end -/
def addF (p q : Int × Int) : Int × Int := red (p.1 * q.2 + q.1 * p.2) (p.2 * q.2)
def subF (p q : Int × Int) : Int × Int := red (p.1 * q.2 - q.1 * p.2) (p.2 * q.2)
theorem add_val {p q : Int × Int} (hp : 0 < p.2) (hq : 0 < q.2) : 0 < (addF p q).2 ∧ val (addF p q) = val p + val q := by
  have pos := Int.mul_pos hp hq
  refine ⟨red_pos pos, ?_⟩
  unfold addF
  rw [red_val pos, Rat.intCast_add, Rat.intCast_mul, Rat.intCast_mul, Rat.intCast_mul]
  have n1 := cast_ne hp
  have n2 := cast_ne hq
  unfold val
  grind
theorem sub_val {p q : Int × Int} (hp : 0 < p.2) (hq : 0 < q.2) : 0 < (subF p q).2 ∧ val (subF p q) = val p - val q := by
  have pos := Int.mul_pos hp hq
  refine ⟨red_pos pos, ?_⟩
  unfold subF
  rw [red_val pos, Rat.intCast_sub, Rat.intCast_mul, Rat.intCast_mul, Rat.intCast_mul]
  have n1 := cast_ne hp
  have n2 := cast_ne hq
  unfold val
  grind
theorem sub_rd {p q : Int × Int} (hp : 0 < p.2) (hq : 0 < q.2) : Rd (subF p q) := red_rd (Int.mul_pos hp hq)
def rndL (c : Str) : Int → List (Int × Int) → (Int × Int) → (Int × Int)
  | _, [], f => f
  | x, p :: ps, f => rndL c (stpI c x p) ps (addF f (worthL (restI c (exI x p).1 (exI x p).2 1) ps))
theorem rnd_val {c : Str} : ∀ {ps : List (Int × Int)} {x : Int} {f : Int × Int}, (∀ p ∈ ps, RtOk p) → 0 < f.2 → 0 < (rndL c x ps f).2 ∧ val (rndL c x ps f) = val f + ((x : Rat) * valL ps - (endI c x ps : Rat))
  | [], x, f, _, h => ⟨h, by
    show val f = val f + ((x : Rat) * 1 - (x : Rat))
    grind⟩
  | p :: ps, x, f, hp, h => by
    have ok := hp p List.mem_cons_self
    have hps : ∀ r ∈ ps, RtOk r := fun r hr => hp r (List.mem_cons_of_mem _ hr)
    obtain ⟨r1, r2⟩ := rest_val (c := c) (x := x) ok
    obtain ⟨w1, w2⟩ := worth_val (ps := ps) (q := restI c (exI x p).1 (exI x p).2 1) hps r1
    obtain ⟨a1, a2⟩ := add_val h w1
    obtain ⟨i1, i2⟩ := rnd_val (c := c) (ps := ps) (x := stpI c x p) hps a1
    refine ⟨i1, ?_⟩
    show val (rndL c (stpI c x p) ps _) = val f + ((x : Rat) * (val p * valL ps) - (endI c (stpI c x p) ps : Rat))
    rw [i2, a2, w2, r2]
    grind
/-- two roads differ in the end by their worths less their roundings -/
theorem ends_apart {c : Str} {ps qs : List (Int × Int)} {x : Int} (hp : ∀ p ∈ ps, RtOk p) (hq : ∀ p ∈ qs, RtOk p) :
    (endI c x ps - endI c x qs, 1) = subF (subF (worthL (x, 1) ps) (worthL (x, 1) qs)) (subF (rndL c x ps (0, 1)) (rndL c x qs (0, 1))) := by
  obtain ⟨w1, w2⟩ := worth_val (q := (x, 1)) hp Int.one_pos
  obtain ⟨v1, v2⟩ := worth_val (q := (x, 1)) hq Int.one_pos
  obtain ⟨r1, r2⟩ := rnd_val (c := c) (x := x) (f := (0, 1)) hp Int.one_pos
  obtain ⟨s1, s2⟩ := rnd_val (c := c) (x := x) (f := (0, 1)) hq Int.one_pos
  obtain ⟨a1, a2⟩ := sub_val w1 v1
  obtain ⟨b1, b2⟩ := sub_val r1 s1
  refine rd_inj (rd_int _) (sub_rd a1 b1) ?_
  rw [val_int, (sub_val a1 b1).2, a2, b2, w2, v2, r2, s2, val_int, val_int, Rat.intCast_sub]
  grind
theorem sub_neg {p q : Int × Int} (hp : 0 < p.2) (hq : 0 < q.2) : subF q p = (0 - (subF p q).1, (subF p q).2) := by
  unfold subF
  rw [← red_neg (Int.mul_pos hp hq), Int.mul_comm q.2 p.2]
  congr 1
  omega
theorem sub_self {p : Int × Int} (hp : 0 < p.2) : subF p p = (0, 1) := by
  unfold subF
  rw [Int.sub_self]
  exact red_zero (Int.mul_pos hp hp)
theorem sub_ints (x y : Int) : subF (x, 1) (y, 1) = (x - y, 1) := by
  show red (x * 1 - y * 1) (1 * 1) = _
  rw [Int.mul_one, Int.mul_one]
  exact red_one _
end Mp
end

/-! ## N1 -/
section
set_option linter.all false
set_option maxRecDepth 100000
namespace Mp
open PySem
local macro_rules | `(tactic| one_item) => `(tactic| simp (config := { decide := false }) only [↓bnd_p, bnd_s, bnd_n, runF_e, endF_nx, endF_rt, exs_c, exs_n, seqF_nx, seqF_rt, seqF_bk, seqF_ct, ex.eq_1, ex.eq_2, ex.eq_3, ex.eq_4, ex.eq_5, ex.eq_6, ex.eq_7, ex.eq_8, ex.eq_9, ex.eq_10, ex.eq_11, ex.eq_12, ex.eq_15, ex.eq_16, ex.eq_17, ex.eq_18, ev.eq_1, ev.eq_2, ev.eq_3, ev.eq_4, ev.eq_5, ev.eq_6, ev.eq_7, ev.eq_8, ev.eq_9, ev.eq_10, ev.eq_11, ev.eq_12, ev.eq_13, ev.eq_14, ev.eq_15, ev.eq_16, ev.eq_17, ev.eq_18, ev.eq_19, ev.eq_20, ev.eq_23, ev.eq_24, ev.eq_25, ev.eq_26, ev.eq_27, evs, evas, evac, evc, evo, evod, evit.eq_1, evit.eq_3, evit.eq_4, evit.eq_5, evit.eq_6, evit.eq_7, evOs, arB_cst, arC_cst, arB_bin, arC_bin, arB_neg, arC_neg, arB_not, arC_not, arB_cmp, arC_cmp, arB_chn, arC_chn, arB_and, arC_and, arB_or, arC_or, arB_ife, arC_ife, arB_tup, arC_tup, arB_lst, arC_lst, arB_dct, arC_dct, arB_idx, arC_idx, arB_slc, arC_slc, arB_stp, arC_stp, arB_cal, arC_cal, arB_blt, arC_blt, arB_mth, arC_mth, arB_isi, arC_isi, arB_lc, arC_lc, arB_dc, arC_dc, arB_pop, arC_pop, arB_app, arC_app, arB_ext, arC_ext, arB_upd, arC_upd, arB_fst, arC_fst, arB_n, arC_n, arN_s, rdA_v, rdA_s, rdAs, hand, ownSl, putB, nodO, isLst, selK, binO, cmpO, ownIx, outs, pairUp_n, pairUp_s, mrg_n, isOwn_v, isOwn_l, isOwn_d, isOO_v, isOO_l, isOO_d, isO_n, isO_b, isNn_n, isNn_i, isNn_b, isNn_s, isNn_t, isNn_l, notB, leO_i, geO_i, ltO_i, gtO_i, eqO, intsO_i, addO_i, addO_t, addO_l, mulO_i, bolO_b, intO_i, isiD, idxO_t, idxO_l, idxO_vl, dctO_d, dctO_v, seqD_l, seqD_t, seqD_vl, lstO_l, lstO_vl, tupO_t, blO, one_e, two_e, absO_i, intB_i, intB_b, onInts_l, onBools_l, min2_i, max2_i, len_t, len_l, len_vl, len_s, setO_l, ixSet_e, List.set_cons_zero, List.set_cons_succ, asgT_n, asgT_t, asgTs_n, asgTs_c, tgOk_n, tgOk_t, tgsOk_n, tgsOk_c, setOs, wipe, back, slcO_t, slcO_vl, slcO_l, itO_l, itO_vl, itO_t, frA, d_v, d_l, d_d, at_z, at_s, set_z, set_s, ixI_0, ixI_1, ixI_2, ixI_3, ixI_4, eqP_i, eqP_s, nc, List.length_cons, List.length_nil, List.map_cons, List.map_nil, List.cons_append, List.nil_append, List.append_nil, rep_s, rep_z, all_rep, Nat.reduceAdd, Nat.reduceSub, Nat.reduceEqDiff, List.getElem?_cons_zero, List.getElem?_cons_succ, ↓Option.bind_eq_bind, Option.bind_some, Option.bind_none, Option.map_some, Option.map_none, Option.pure_def, if_true, if_false, ite_true, ite_false, reduceIte, Bool.not_true, Bool.not_false, Bool.false_eq_true, List.any_cons, List.any_nil, List.contains_cons, List.contains_nil, Bool.or_false, Bool.false_or, Bool.or_self, Bool.and_true, Bool.true_and, Bool.and_self, Bool.and_false, Bool.false_and, Bool.or_true, Bool.true_or, List.nodup_nil, List.nodup_cons, List.mem_cons, List.not_mem_nil, or_false, or_self, not_false_eq_true, and_true, and_self, Nat.reduceEqDiff, Nat.succ_ne_zero, Nat.zero_ne_one, Nat.one_ne_zero, beq_self_eq_true, Nat.reduceBEq, Int.reduceMul, Int.reduceNeg, decide_true, decide_false, Int.reduceLT, Int.reduceLE, Int.reduceEq, Int.ofNat_eq_natCast])
local macro_rules | `(tactic| one_place) => `(tactic| simp (config := { decide := false }) only [↓bnd_p, bnd_s, bnd_n, runF_e, endF_nx, endF_rt, exs_c, exs_n, seqF_nx, seqF_rt, seqF_bk, seqF_ct, ex.eq_1, ex.eq_2, ex.eq_3, ex.eq_4, ex.eq_5, ex.eq_6, ex.eq_7, ex.eq_8, ex.eq_9, ex.eq_10, ex.eq_11, ex.eq_12, ex.eq_15, ex.eq_16, ex.eq_17, ex.eq_18, ev.eq_1, ev.eq_2, ev.eq_3, ev.eq_4, ev.eq_5, ev.eq_6, ev.eq_7, ev.eq_8, ev.eq_9, ev.eq_10, ev.eq_11, ev.eq_12, ev.eq_13, ev.eq_14, ev.eq_15, ev.eq_16, ev.eq_17, ev.eq_18, ev.eq_19, ev.eq_20, ev.eq_23, ev.eq_24, ev.eq_25, ev.eq_26, ev.eq_27, evs, evas, evac, evc, evo, evod, evit.eq_1, evit.eq_3, evit.eq_4, evit.eq_5, evit.eq_6, evit.eq_7, evOs, arB_cst, arC_cst, arB_bin, arC_bin, arB_neg, arC_neg, arB_not, arC_not, arB_cmp, arC_cmp, arB_chn, arC_chn, arB_and, arC_and, arB_or, arC_or, arB_ife, arC_ife, arB_tup, arC_tup, arB_lst, arC_lst, arB_dct, arC_dct, arB_idx, arC_idx, arB_slc, arC_slc, arB_stp, arC_stp, arB_cal, arC_cal, arB_blt, arC_blt, arB_mth, arC_mth, arB_isi, arC_isi, arB_lc, arC_lc, arB_dc, arC_dc, arB_pop, arC_pop, arB_app, arC_app, arB_ext, arC_ext, arB_upd, arC_upd, arB_fst, arC_fst, arB_n, arC_n, arN_s, rdA_v, rdA_s, rdAs, hand, ownSl, putB, nodO, isLst, selK, binO, cmpO, ownIx, outs, pairUp_n, pairUp_s, mrg_n, isOwn_v, isOwn_l, isOwn_d, isOO_v, isOO_l, isOO_d, isO_n, isO_b, isNn_n, isNn_i, isNn_b, isNn_s, isNn_t, isNn_l, notB, leO_i, geO_i, ltO_i, gtO_i, eqO, intsO_i, addO_i, addO_t, addO_l, mulO_i, bolO_b, intO_i, isiD, idxO_t, idxO_l, idxO_vl, dctO_d, dctO_v, seqD_l, seqD_t, seqD_vl, lstO_l, lstO_vl, tupO_t, blO, one_e, two_e, absO_i, intB_i, intB_b, onInts_l, onBools_l, min2_i, max2_i, len_t, len_l, len_vl, len_s, setO_l, ixSet_e, List.set_cons_zero, List.set_cons_succ, asgT_n, asgT_t, asgTs_n, asgTs_c, tgOk_n, tgOk_t, tgsOk_n, tgsOk_c, setOs, wipe, back, slcO_t, slcO_vl, slcO_l, itO_l, itO_vl, itO_t, frA, d_v, d_l, d_d, at_z, at_s, set_z, set_s, ixI_0, ixI_1, ixI_2, ixI_3, ixI_4, eqP_i, eqP_s, nc, List.length_cons, List.length_nil, List.map_cons, List.map_nil, List.cons_append, List.nil_append, List.append_nil, rep_s, rep_z, all_rep, Nat.reduceAdd, Nat.reduceSub, Nat.reduceEqDiff, List.getElem?_cons_zero, List.getElem?_cons_succ, ↓Option.bind_eq_bind, Option.bind_some, Option.bind_none, Option.map_some, Option.map_none, Option.pure_def, if_true, if_false, ite_true, ite_false, reduceIte, Bool.not_true, Bool.not_false, Bool.false_eq_true, List.any_cons, List.any_nil, List.contains_cons, List.contains_nil, Bool.or_false, Bool.false_or, Bool.or_self, Bool.and_true, Bool.true_and, Bool.and_self, Bool.and_false, Bool.false_and, Bool.or_true, Bool.true_or, List.nodup_nil, List.nodup_cons, List.mem_cons, List.not_mem_nil, or_false, or_self, not_false_eq_true, and_true, and_self, Nat.reduceEqDiff, Nat.succ_ne_zero, Nat.zero_ne_one, Nat.one_ne_zero, beq_self_eq_true, Nat.reduceBEq, Int.reduceMul, Int.reduceNeg, decide_true, decide_false, Int.reduceLT, Int.reduceLE, Int.reduceEq, Int.ofNat_eq_natCast, *])
section
variable {lw : List Fd} (n : Nat)
theorem inO_ll (x : Str) (xs : List Str) : inO (.v (.str x)) (.lst (xs.map .str)) = some (decide (x ∈ xs)) := memD_s x xs
theorem plus_f {p q : Int × Int} {a b : Nat} (hp : 0 < p.2) (hq : 0 < q.2) (p1 : Bd a p.1) (p2 : Bd a p.2) (q1 : Bd b q.1) (q2 : Bd b q.2) (hab : a + b ≤ 8000) :
    callD (FN lw) (n + 3) 59 [.v (fr p), .v (fr q)] = some (.v (fr (red (p.1 * q.2 + q.1 * p.2) (p.2 * q.2))), [.v (fr p), .v (fr q)]) := by
  rw [callS (fd := Lib.b_plus) rfl]
  unfold Lib.b_plus fr
  have e1 := mulOk_of p1 q2 (by omega)
  have e2 := mulOk_of q1 p2 (by omega)
  have e3 := mulOk_of p2 q2 (by omega)
  one_place
  rw [reduced_i n _ _ (Int.mul_pos hp hq) ((p2.mul q2).mono hab)]
  one_item
  rfl
theorem l_plus_f {p q : Int × Int} {a b : Nat} (hp : 0 < p.2) (hq : 0 < q.2) (p1 : Bd a p.1) (p2 : Bd a p.2) (q1 : Bd b q.1) (q2 : Bd b q.2) (hab : a + b ≤ 8000) :
    callD (FN lw) (n + 2) 67 [.v (fr p), .v (fr q)] = some (.v (fr (red (p.1 * q.2 + q.1 * p.2) (p.2 * q.2))), [.v (fr p), .v (fr q)]) := by
  rw [callS (fd := Lib.b_l_plus) rfl]
  unfold Lib.b_l_plus fr
  have e1 := mulOk_of p1 q2 (by omega)
  have e2 := mulOk_of q1 p2 (by omega)
  have e3 := mulOk_of p2 q2 (by omega)
  one_place
  rw [low_i n _ _ (Int.mul_pos hp hq) ((p2.mul q2).mono hab)]
  one_item
  rfl
theorem l_less_f {p q : Int × Int} {a b : Nat} (hp : 0 < p.2) (hq : 0 < q.2) (p1 : Bd a p.1) (p2 : Bd a p.2) (q1 : Bd b q.1) (q2 : Bd b q.2) (hab : a + b ≤ 8000) :
    callD (FN lw) (n + 2) 68 [.v (fr p), .v (fr q)] = some (.v (fr (red (p.1 * q.2 - q.1 * p.2) (p.2 * q.2))), [.v (fr p), .v (fr q)]) := by
  rw [callS (fd := Lib.b_l_less) rfl]
  unfold Lib.b_l_less fr
  have e1 := mulOk_of p1 q2 (by omega)
  have e2 := mulOk_of q1 p2 (by omega)
  have e3 := mulOk_of p2 q2 (by omega)
  one_place
  rw [low_i n _ _ (Int.mul_pos hp hq) ((p2.mul q2).mono hab)]
  one_item
  rfl
theorem l_times_f {p q : Int × Int} {a b : Nat} (hp : 0 < p.2) (hq : 0 < q.2) (p1 : Bd a p.1) (p2 : Bd a p.2) (q1 : Bd b q.1) (q2 : Bd b q.2) (hab : a + b ≤ 8000) :
    callD (FN lw) (n + 2) 69 [.v (fr p), .v (fr q)] = some (.v (fr (red (p.1 * q.1) (p.2 * q.2))), [.v (fr p), .v (fr q)]) := by
  rw [callS (fd := Lib.b_l_times) rfl]
  unfold Lib.b_l_times fr
  have e1 := mulOk_of p1 q1 (by omega)
  have e3 := mulOk_of p2 q2 (by omega)
  one_place
  rw [low_i n _ _ (Int.mul_pos hp hq) ((p2.mul q2).mono hab)]
  one_item
  rfl
/-! ### rate -/
theorem need_code_s (R : RulesT) (s : Str) (h : isCode s) (hm : s ∈ codes R) : callD (FN lw) (n + 3) 60 [.v R.enc, .v (.str s)] = some (.v .none, [.v R.enc, .v (.str s)]) := by
  have c1 := codes_of_r (lw := lw) (n + 1) R
  have c2 := is_code_s (lw := lw) n s h.1 h.2
  generalize R.enc = re at *
  rw [callS (fd := Lib.b_need_code) rfl]
  unfold Lib.b_need_code
  one_item
  rw [c2]
  one_item
  rw [c1]
  one_item
  rw [inO_ll, decide_eq_true hm]
  one_item
theorem rate_r (R : RulesT) (hR : RulesOk R) (day : Int) (hd : 0 ≤ day ∧ day ≤ 9999) (a b : Str) (ha : a ∈ codes R) (hb : b ∈ codes R) {p : Int × Int} (h : rateAt R day a b = some p) :
    callD (FN lw) (n + 7) 61 [.v R.enc, .v (.int day), .v (.str a), .v (.str b)] = some (.v (fr p), [.v R.enc, .v (.int day), .v (.str a), .v (.str b)]) := by
  have isc : ∀ c ∈ codes R, isCode c := fun c hc => by
    obtain ⟨q, hq, rfl⟩ := List.mem_map.mp hc
    exact (hR.cur q hq).1
  have c1 := need_rules_r (lw := lw) n R hR
  have c2 := need_day_i (lw := lw) (n + 3) day hd
  have c3 := need_code_s (lw := lw) (n + 3) R a (isc a ha) ha
  have c4 := need_code_s (lw := lw) (n + 3) R b (isc b hb) hb
  have c5 := rate_at_r (lw := lw) (n + 3) R hR day a b
  rw [h] at c5
  generalize R.enc = re at *
  rw [callS (fd := Lib.b_rate) rfl]
  unfold Lib.b_rate
  one_item
  rw [c1]
  one_item
  rw [c2]
  one_item
  rw [c3]
  one_item
  rw [c4]
  one_item
  rw [c5]
  one_item
  rfl
end
end Mp
end

/-! ## N2 -/
section
set_option linter.all false
set_option maxRecDepth 100000
namespace Mp
open PySem
local macro_rules | `(tactic| one_item) => `(tactic| simp (config := { decide := false }) only [↓bnd_p, bnd_s, bnd_n, runF_e, endF_nx, endF_rt, exs_c, exs_n, seqF_nx, seqF_rt, seqF_bk, seqF_ct, ex.eq_1, ex.eq_2, ex.eq_3, ex.eq_4, ex.eq_5, ex.eq_6, ex.eq_7, ex.eq_8, ex.eq_9, ex.eq_10, ex.eq_11, ex.eq_12, ex.eq_15, ex.eq_16, ex.eq_17, ex.eq_18, ev.eq_1, ev.eq_2, ev.eq_3, ev.eq_4, ev.eq_5, ev.eq_6, ev.eq_7, ev.eq_8, ev.eq_9, ev.eq_10, ev.eq_11, ev.eq_12, ev.eq_13, ev.eq_14, ev.eq_15, ev.eq_16, ev.eq_17, ev.eq_18, ev.eq_19, ev.eq_20, ev.eq_23, ev.eq_24, ev.eq_25, ev.eq_26, ev.eq_27, evs, evas, evac, evc, evo, evod, evit.eq_1, evit.eq_3, evit.eq_4, evit.eq_5, evit.eq_6, evit.eq_7, evOs, arB_cst, arC_cst, arB_bin, arC_bin, arB_neg, arC_neg, arB_not, arC_not, arB_cmp, arC_cmp, arB_chn, arC_chn, arB_and, arC_and, arB_or, arC_or, arB_ife, arC_ife, arB_tup, arC_tup, arB_lst, arC_lst, arB_dct, arC_dct, arB_idx, arC_idx, arB_slc, arC_slc, arB_stp, arC_stp, arB_cal, arC_cal, arB_blt, arC_blt, arB_mth, arC_mth, arB_isi, arC_isi, arB_lc, arC_lc, arB_dc, arC_dc, arB_pop, arC_pop, arB_app, arC_app, arB_ext, arC_ext, arB_upd, arC_upd, arB_fst, arC_fst, arB_n, arC_n, arN_s, rdA_v, rdA_s, rdAs, hand, ownSl, putB, nodO, isLst, selK, binO, cmpO, ownIx, outs, pairUp_n, pairUp_s, mrg_n, isOwn_v, isOwn_l, isOwn_d, isOO_v, isOO_l, isOO_d, isO_n, isO_b, isNn_n, isNn_i, isNn_b, isNn_s, isNn_t, isNn_l, notB, leO_i, geO_i, ltO_i, gtO_i, eqO, intsO_i, addO_i, addO_t, addO_l, mulO_i, bolO_b, intO_i, isiD, idxO_t, idxO_l, idxO_vl, dctO_d, dctO_v, seqD_l, seqD_t, seqD_vl, lstO_l, lstO_vl, tupO_t, blO, one_e, two_e, absO_i, intB_i, intB_b, onInts_l, onBools_l, min2_i, max2_i, len_t, len_l, len_vl, len_s, setO_l, ixSet_e, List.set_cons_zero, List.set_cons_succ, asgT_n, asgT_t, asgTs_n, asgTs_c, tgOk_n, tgOk_t, tgsOk_n, tgsOk_c, setOs, wipe, back, slcO_t, slcO_vl, slcO_l, itO_l, itO_vl, itO_t, frA, d_v, d_l, d_d, at_z, at_s, set_z, set_s, ixI_0, ixI_1, ixI_2, ixI_3, ixI_4, eqP_i, eqP_s, nc, List.length_cons, List.length_nil, List.map_cons, List.map_nil, List.cons_append, List.nil_append, List.append_nil, rep_s, rep_z, all_rep, Nat.reduceAdd, Nat.reduceSub, Nat.reduceEqDiff, List.getElem?_cons_zero, List.getElem?_cons_succ, ↓Option.bind_eq_bind, Option.bind_some, Option.bind_none, Option.map_some, Option.map_none, Option.pure_def, if_true, if_false, ite_true, ite_false, reduceIte, Bool.not_true, Bool.not_false, Bool.false_eq_true, List.any_cons, List.any_nil, List.contains_cons, List.contains_nil, Bool.or_false, Bool.false_or, Bool.or_self, Bool.and_true, Bool.true_and, Bool.and_self, Bool.and_false, Bool.false_and, Bool.or_true, Bool.true_or, List.nodup_nil, List.nodup_cons, List.mem_cons, List.not_mem_nil, or_false, or_self, not_false_eq_true, and_true, and_self, Nat.reduceEqDiff, Nat.succ_ne_zero, Nat.zero_ne_one, Nat.one_ne_zero, beq_self_eq_true, Nat.reduceBEq, Int.reduceMul, Int.reduceNeg, decide_true, decide_false, Int.reduceLT, Int.reduceLE, Int.reduceEq, Int.ofNat_eq_natCast])
local macro_rules | `(tactic| one_place) => `(tactic| simp (config := { decide := false }) only [↓bnd_p, bnd_s, bnd_n, runF_e, endF_nx, endF_rt, exs_c, exs_n, seqF_nx, seqF_rt, seqF_bk, seqF_ct, ex.eq_1, ex.eq_2, ex.eq_3, ex.eq_4, ex.eq_5, ex.eq_6, ex.eq_7, ex.eq_8, ex.eq_9, ex.eq_10, ex.eq_11, ex.eq_12, ex.eq_15, ex.eq_16, ex.eq_17, ex.eq_18, ev.eq_1, ev.eq_2, ev.eq_3, ev.eq_4, ev.eq_5, ev.eq_6, ev.eq_7, ev.eq_8, ev.eq_9, ev.eq_10, ev.eq_11, ev.eq_12, ev.eq_13, ev.eq_14, ev.eq_15, ev.eq_16, ev.eq_17, ev.eq_18, ev.eq_19, ev.eq_20, ev.eq_23, ev.eq_24, ev.eq_25, ev.eq_26, ev.eq_27, evs, evas, evac, evc, evo, evod, evit.eq_1, evit.eq_3, evit.eq_4, evit.eq_5, evit.eq_6, evit.eq_7, evOs, arB_cst, arC_cst, arB_bin, arC_bin, arB_neg, arC_neg, arB_not, arC_not, arB_cmp, arC_cmp, arB_chn, arC_chn, arB_and, arC_and, arB_or, arC_or, arB_ife, arC_ife, arB_tup, arC_tup, arB_lst, arC_lst, arB_dct, arC_dct, arB_idx, arC_idx, arB_slc, arC_slc, arB_stp, arC_stp, arB_cal, arC_cal, arB_blt, arC_blt, arB_mth, arC_mth, arB_isi, arC_isi, arB_lc, arC_lc, arB_dc, arC_dc, arB_pop, arC_pop, arB_app, arC_app, arB_ext, arC_ext, arB_upd, arC_upd, arB_fst, arC_fst, arB_n, arC_n, arN_s, rdA_v, rdA_s, rdAs, hand, ownSl, putB, nodO, isLst, selK, binO, cmpO, ownIx, outs, pairUp_n, pairUp_s, mrg_n, isOwn_v, isOwn_l, isOwn_d, isOO_v, isOO_l, isOO_d, isO_n, isO_b, isNn_n, isNn_i, isNn_b, isNn_s, isNn_t, isNn_l, notB, leO_i, geO_i, ltO_i, gtO_i, eqO, intsO_i, addO_i, addO_t, addO_l, mulO_i, bolO_b, intO_i, isiD, idxO_t, idxO_l, idxO_vl, dctO_d, dctO_v, seqD_l, seqD_t, seqD_vl, lstO_l, lstO_vl, tupO_t, blO, one_e, two_e, absO_i, intB_i, intB_b, onInts_l, onBools_l, min2_i, max2_i, len_t, len_l, len_vl, len_s, setO_l, ixSet_e, List.set_cons_zero, List.set_cons_succ, asgT_n, asgT_t, asgTs_n, asgTs_c, tgOk_n, tgOk_t, tgsOk_n, tgsOk_c, setOs, wipe, back, slcO_t, slcO_vl, slcO_l, itO_l, itO_vl, itO_t, frA, d_v, d_l, d_d, at_z, at_s, set_z, set_s, ixI_0, ixI_1, ixI_2, ixI_3, ixI_4, eqP_i, eqP_s, nc, List.length_cons, List.length_nil, List.map_cons, List.map_nil, List.cons_append, List.nil_append, List.append_nil, rep_s, rep_z, all_rep, Nat.reduceAdd, Nat.reduceSub, Nat.reduceEqDiff, List.getElem?_cons_zero, List.getElem?_cons_succ, ↓Option.bind_eq_bind, Option.bind_some, Option.bind_none, Option.map_some, Option.map_none, Option.pure_def, if_true, if_false, ite_true, ite_false, reduceIte, Bool.not_true, Bool.not_false, Bool.false_eq_true, List.any_cons, List.any_nil, List.contains_cons, List.contains_nil, Bool.or_false, Bool.false_or, Bool.or_self, Bool.and_true, Bool.true_and, Bool.and_self, Bool.and_false, Bool.false_and, Bool.or_true, Bool.true_or, List.nodup_nil, List.nodup_cons, List.mem_cons, List.not_mem_nil, or_false, or_self, not_false_eq_true, and_true, and_self, Nat.reduceEqDiff, Nat.succ_ne_zero, Nat.zero_ne_one, Nat.one_ne_zero, beq_self_eq_true, Nat.reduceBEq, Int.reduceMul, Int.reduceNeg, decide_true, decide_false, Int.reduceLT, Int.reduceLE, Int.reduceEq, Int.ofNat_eq_natCast, *])
section
variable {lw : List Fd} (n : Nat)
theorem hd_ix {xs : List D} {x : D} (h : xs.head? = some x) : ixI xs.length 0 = some 0 ∧ xs[0]? = some x := by
  cases xs with
  | nil => cases h
  | cons y ys =>
    cases h
    exact ⟨ixI_0, rfl⟩
theorem same_ends_r {xs ys : List D} {a z : Str} (h1 : xs.head? = some (.str a)) (h2 : xs.getLast? = some (.str z)) (h3 : ys.head? = some (.str a)) (h4 : ys.getLast? = some (.str z)) :
    callD (FN lw) (n + 1) 62 [.v (.tuple xs), .v (.tuple ys)] = some (.v .none, [.v (.tuple xs), .v (.tuple ys)]) := by
  obtain ⟨i1, i2⟩ := hd_ix h1
  obtain ⟨i3, i4⟩ := hd_ix h3
  have i5 := last_ix h2
  have i6 := last_get h2
  have i7 := last_ix h4
  have i8 := last_get h4
  rw [callS (fd := Lib.b_need_same_ends) rfl]
  unfold Lib.b_need_same_ends
  one_item
  rw [i3]
  one_item
  rw [i4]
  one_item
  rw [i7]
  one_item
  rw [i8]
  one_item
  rw [i1]
  one_item
  rw [i2]
  one_item
  rw [i5]
  one_item
  rw [i6]
  one_item
  rw [eqP_ss, decide_eq_true rfl, decide_eq_true rfl]
  one_item
theorem paper_loop1 (c : Str) (d1 d3 : D) : ∀ (qs : List (Str × Str)) (ps : List (Int × Int)) (x : Int) (fd : List D) (k : Nat) (u5 u6 u7 u8 u9 u10 : Option O), qs.length = ps.length → (∀ p ∈ ps, RtOk p) → Bd k x → k + 17 * qs.length ≤ 2000 → fd.length + qs.length ≤ 1000 →
    ∃ y v5 v6 v7 v8 v9 v10, forLoop (forF (callD (FN lw) (n + 4)) [1] (.tp [(.tp [(.nm 5), (.nm 6)]), (.nm 7)]) paperB) (zipD (qs.map encP) (ps.map fr)) [some (.v (.str c)), some (.v d1), some (.v (.int x)), some (.v d3), some (.lst fd), u5, u6, u7, u8, u9, u10] =
      some (.nx, [some (.v (.str c)), some (.v d1), some (.v (.int y)), some (.v d3), some (.lst (fd ++ paper c x qs ps)), v5, v6, v7, v8, v9, v10])
  | [], ps, x, fd, k, u5, u6, u7, u8, u9, u10, hl, _, _, _, _ => ⟨x, u5, u6, u7, u8, u9, u10, by
    have : paper c x [] ps = [] := by
      unfold paper
      rfl
    rw [this, List.append_nil]
    rfl⟩
  | q :: qs, [], _, _, _, _, _, _, _, _, _, hl, _, _, _, _ => by simp at hl
  | q :: qs, p :: ps, x, fd, k, u5, u6, u7, u8, u9, u10, hl, hp, hx, hk, hf => by
    have ok := hp p List.mem_cons_self
    obtain ⟨e1, e2, e3⟩ := exI_ok ok hx
    have one : Bd 1 (1 : Int) := by unfold Bd; decide
    rw [List.length_cons] at hk hf
    have c1 := times_f (lw := lw) (n + 1) (p := (x, 1)) (q := p) (a := max k 1) (b := 17) Int.one_pos ok.p2 (hx.mono (by omega)) (one.mono (by omega)) ok.b1 ok.b2 (by omega)
    have c2 := round_by_i (lw := lw) n c (exI x p).1 (exI x p).2 1 e1 Int.one_pos e2 e3 (one.mono (by decide)) (by decide) (by omega)
    have c3 : fd.length < SZ := Nat.lt_of_lt_of_le (by omega : fd.length < 1001) (by decide)
    have step : forF (callD (FN lw) (n + 4)) [1] (.tp [(.tp [(.nm 5), (.nm 6)]), (.nm 7)]) paperB (.tuple [encP q, fr p]) [some (.v (.str c)), some (.v d1), some (.v (.int x)), some (.v d3), some (.lst fd), u5, u6, u7, u8, u9, u10] =
        some (.nx, [some (.v (.str c)), some (.v d1), some (.v (.int (stpI c x p))), some (.v d3), some (.lst (fd ++ [row c x q p])), some (.v (.str q.1)), some (.v (.str q.2)), some (.v (fr p)), some (.v (fr (exI x p))), some (.v (.int (stpI c x p))), some (.v (fr (restI c (exI x p).1 (exI x p).2 1)))]) := by
      unfold forF paperB encP
      one_item
      unfold fr at c1 ⊢
      rw [c1]
      one_item
      rw [show red (x * p.1) (1 * p.2) = exI x p from rfl, c2]
      unfold fr
      one_item
      rw [if_pos c3]
      one_item
      rfl
    obtain ⟨y, v5, v6, v7, v8, v9, v10, e⟩ := paper_loop1 c d1 d3 qs ps (stpI c x p) (fd ++ [row c x q p]) (k + 17) (some (.v (.str q.1))) (some (.v (.str q.2))) (some (.v (fr p))) (some (.v (fr (exI x p)))) (some (.v (.int (stpI c x p)))) (some (.v (fr (restI c (exI x p).1 (exI x p).2 1)))) (by simpa using hl) (fun r hr => hp r (List.mem_cons_of_mem _ hr)) (stpI_bd ok hx) (by omega) (by rw [List.length_append, List.length_singleton]; omega)
    refine ⟨y, v5, v6, v7, v8, v9, v10, ?_⟩
    show forLoop _ (.tuple [encP q, fr p] :: zipD (qs.map encP) (ps.map fr)) _ = _
    rw [forLoop, step]
    show forLoop _ (zipD (qs.map encP) (ps.map fr)) _ = _
    rw [e, List.append_assoc]
    rfl
theorem paper_by_l (c : Str) (ps : List (Int × Int)) (x : Int) (road : List Str) (hl : (pairs road).length = ps.length) (hp : ∀ p ∈ ps, RtOk p) {k : Nat} (hx : Bd k x) (hk : k + 17 * ps.length ≤ 2000) (hr : ps.length ≤ 100) :
    callD (FN lw) (n + 5) 35 [.v (.str c), .lst (ps.map fr), .v (.int x), .v (.tuple (road.map .str))] = some (.v (.tuple (paper c x (pairs road) ps)), [.v (.str c), .v (.list (ps.map fr)), .v (.int x), .v (.tuple (road.map .str))]) := by
  obtain ⟨y, v5, v6, v7, v8, v9, v10, e⟩ := paper_loop1 (lw := lw) n c (.list (ps.map fr)) (.tuple (road.map .str)) (pairs road) ps x [] k none none none none none none hl hp hx (by omega) (by simp; omega)
  rw [callS (fd := Lib.b_paper_by) rfl]
  unfold Lib.b_paper_by
  one_item
  rw [for_run (r1 := [some (.v (.str c)), some (.v (.list (ps.map fr))), some (.v (.int x)), some (.v (.tuple (road.map .str))), some (.lst []), none, none, none, none, none, none]) (by
    one_item
    rw [cut_tail, zip_pairs]
    rfl) (by one_item) e]
  one_item
/-! ### roundings -/
theorem rest_bd {c : Str} {x : Int} {p : Int × Int} (hp : RtOk p) {k : Nat} (hx : Bd k x) : 0 < (restI c (exI x p).1 (exI x p).2 1).2 ∧ Bd 18 (restI c (exI x p).1 (exI x p).2 1).1 ∧ Bd 18 (restI c (exI x p).1 (exI x p).2 1).2 := by
  obtain ⟨h1, h2⟩ := rest_val (c := c) (x := x) hp
  obtain ⟨s1, s2⟩ := rest_small (c := c) (x := x) hp
  have pos : 0 < 1 * p.2 := by have := hp.p2; omega
  obtain ⟨e0, _, e3⟩ := exI_ok hp hx
  have e2 : red (exI x p).1 (exI x p).2 = exI x p := (red_rd pos).2
  have b2 : Bd 18 (restI c (exI x p).1 (exI x p).2 1).2 := by
    unfold restI
    rw [e2]
    refine Bd.le e3 ?_
    have := natAbs_ediv_le (t := (exI x p).2 * 1) (gI_pos (t := (exI x p).1 * 1 - toldI c (exI x p).1 (exI x p).2 1 * (exI x p).2) (b := (exI x p).2 * 1) (by omega)) (gI_r _ _)
    rw [Int.mul_one] at this
    show ((exI x p).2 * 1 / gI _ ((exI x p).2 * 1)).natAbs ≤ _
    rw [Int.mul_one (exI x p).2]
    exact this
  refine ⟨h1, Bd.le b2 (by omega), b2⟩
theorem add_bd {p q : Int × Int} {a b : Nat} (hp : 0 < p.2) (hq : 0 < q.2) (p1 : Bd a p.1) (p2 : Bd a p.2) (q1 : Bd b q.1) (q2 : Bd b q.2) : 0 < (addF p q).2 ∧ Bd (a + b + 1) (addF p q).1 ∧ Bd (a + b + 1) (addF p q).2 := by
  have pos := Int.mul_pos hp hq
  obtain ⟨r1, r2⟩ := red_bd pos ((p1.mul q2).add ((q1.mul p2).mono (by omega : b + a ≤ a + b))) (p2.mul q2)
  exact ⟨red_pos pos, r1, r2.mono (by omega)⟩
theorem worthL_bd0 : ∀ {ps : List (Int × Int)} {q : Int × Int} {k : Nat}, (∀ p ∈ ps, RtOk p) → 0 < q.2 → Bd k q.1 → Bd k q.2 → 0 < (worthL q ps).2 ∧ Bd (k + 17 * ps.length) (worthL q ps).1 ∧ Bd (k + 17 * ps.length) (worthL q ps).2
  | [], q, k, _, h, b1, b2 => ⟨h, b1, b2⟩
  | p :: ps, q, k, hp, h, b1, b2 => by
    have ok := hp p List.mem_cons_self
    have pos := Int.mul_pos h ok.p2
    obtain ⟨r1, r2⟩ := red_bd pos (b1.mul ok.b1) (b2.mul ok.b2)
    obtain ⟨i1, i2, i3⟩ := worthL_bd0 (ps := ps) (fun r hr => hp r (List.mem_cons_of_mem _ hr)) (red_pos pos) r1 r2
    rw [List.length_cons]
    exact ⟨i1, i2.mono (by omega), i3.mono (by omega)⟩
abbrev rndI : List CS := [(.asg (.nm 5) (.cal 11 [(.nm 5), (.nm 6)] [] []))]
abbrev rndB : List CS := [(.asg (.nm 5) (.idx (.nm 4) (.cst (.int 5)))), (.for (.nm 6) (.sq (.slc (.nm 0) (some (.bin .add (.nm 3) (.cst (.int 1)))) none)) rndI), (.asg (.nm 2) (.cal 59 [(.nm 2), (.nm 5)] [] []))]
theorem led_loop (d0 d1 d2 d3 d4 : D) : ∀ (ps : List (Int × Int)) (q : Int × Int) (k : Nat) (u : Option O), (∀ p ∈ ps, RtOk p) → 0 < q.2 → Bd k q.1 → Bd k q.2 → k + 17 * ps.length ≤ 8000 →
    ∃ v, forLoop (forF (callD (FN lw) (n + 3)) [] (.nm 6) rndI) (ps.map fr) [some (.v d0), some (.v d1), some (.v d2), some (.v d3), some (.v d4), some (.v (fr q)), u] = some (.nx, [some (.v d0), some (.v d1), some (.v d2), some (.v d3), some (.v d4), some (.v (fr (worthL q ps))), v])
  | [], q, k, u, _, _, _, _, _ => ⟨u, rfl⟩
  | p :: ps, q, k, u, hp, h2, b1, b2, hk => by
    have ok := hp p List.mem_cons_self
    rw [List.length_cons] at hk
    have pos := Int.mul_pos h2 ok.p2
    obtain ⟨r1, r2⟩ := red_bd pos (b1.mul ok.b1) (b2.mul ok.b2)
    obtain ⟨v, e⟩ := led_loop d0 d1 d2 d3 d4 ps (red (q.1 * p.1) (q.2 * p.2)) (k + 17) (some (.v (fr p))) (fun r hr => hp r (List.mem_cons_of_mem _ hr)) (red_pos pos) r1 r2 (by omega)
    refine ⟨v, ?_⟩
    have c1 := times_f (lw := lw) n (p := q) (q := p) h2 ok.p2 b1 b2 ok.b1 ok.b2 (by omega)
    have step : forF (callD (FN lw) (n + 3)) [] (.nm 6) rndI (fr p) [some (.v d0), some (.v d1), some (.v d2), some (.v d3), some (.v d4), some (.v (fr q)), u] = some (.nx, [some (.v d0), some (.v d1), some (.v d2), some (.v d3), some (.v d4), some (.v (fr (red (q.1 * p.1) (q.2 * p.2)))), some (.v (fr p))]) := by
      unfold forF rndI
      one_item
      rw [c1]
      one_item
    rw [List.map_cons, forLoop, step]
    exact e
theorem rnd_loop (c : Str) (all : List (Int × Int)) (hall : all.length ≤ 5) (d1 : D) : ∀ (qs : List (Str × Str)) (ps : List (Int × Int)) (i : Nat) (x : Int) (f : Int × Int) (k l : Nat) (u3 u4 u5 u6 : Option O), qs.length = ps.length → all.drop i = ps → (∀ p ∈ ps, RtOk p) → 0 < f.2 → Bd k x → Bd l f.1 → Bd l f.2 → l + 120 * ps.length ≤ 2000 → k + 17 * ps.length ≤ 2000 →
    ∃ v3 v4 v5 v6, forLoop (forF (callD (FN lw) (n + 4)) [] (.tp [(.nm 3), (.nm 4)]) rndB) (enmD (paper c x qs ps) i) [some (.v (.list (all.map fr))), some (.v d1), some (.v (fr f)), u3, u4, u5, u6] =
      some (.nx, [some (.v (.list (all.map fr))), some (.v d1), some (.v (fr (rndL c x ps f))), v3, v4, v5, v6])
  | [], [], i, x, f, k, l, u3, u4, u5, u6, hl, _, _, _, _, _, _, _, _ => ⟨u3, u4, u5, u6, by
    have : paper c x [] [] = [] := by
      unfold paper
      rfl
    rw [this]
    rfl⟩
  | [], _ :: _, _, _, _, _, _, _, _, _, _, hl, _, _, _, _, _, _, _, _ => by simp at hl
  | q :: qs, [], _, _, _, _, _, _, _, _, _, hl, _, _, _, _, _, _, _, _ => by simp at hl
  | q :: qs, p :: ps, i, x, f, k, l, u3, u4, u5, u6, hl, hd, hp, hf, hx, f1, f2, hb, hk => by
    have ok := hp p List.mem_cons_self
    have hps : ∀ r ∈ ps, RtOk r := fun r hr => hp r (List.mem_cons_of_mem _ hr)
    rw [List.length_cons] at hb hk
    have hi : i + 1 + ps.length = all.length := by
      have := congrArg List.length hd
      rw [List.length_drop, List.length_cons] at this
      omega
    have hd2 : all.drop (i + 1) = ps := by
      rw [← List.drop_drop, hd]
      rfl
    obtain ⟨r0, r1, r2⟩ := rest_bd (c := c) ok hx
    obtain ⟨w0, w1, w2⟩ := worthL_bd0 (ps := ps) hps r0 r1 r2
    have hw : 18 + 17 * ps.length ≤ 103 := by omega
    obtain ⟨a0, a1, a2⟩ := add_bd hf w0 f1 f2 (w1.mono hw) (w2.mono hw)
    obtain ⟨v, e1⟩ := led_loop (lw := lw) (n + 1) (.list (all.map fr)) d1 (fr f) (.int i) (row c x q p) ps (restI c (exI x p).1 (exI x p).2 1) 18 u6 hps r0 r1 r2 (by omega)
    have c1 := plus_f (lw := lw) (n + 1) hf w0 f1 f2 (w1.mono hw) (w2.mono hw) (by omega)
    obtain ⟨v3, v4, v5, v6, e2⟩ := rnd_loop c all hall d1 qs ps (i + 1) (stpI c x p) (addF f (worthL (restI c (exI x p).1 (exI x p).2 1) ps)) (k + 17) (l + 103 + 1) (some (.v (.int i))) (some (.v (row c x q p))) (some (.v (fr (worthL (restI c (exI x p).1 (exI x p).2 1) ps)))) v (by simpa using hl) hd2 hps a0 (stpI_bd ok hx) a1 a2 (by omega) (by omega)
    refine ⟨v3, v4, v5, v6, ?_⟩
    have cut : cutL (all.map fr) (some ((i : Int) + 1)) none = ps.map fr := by
      rw [show ((i : Int) + 1) = ((i + 1 : Nat) : Int) by omega, cut_from (by rw [List.length_map]; omega), ← List.map_drop, hd2]
    have j5 : ixI 6 5 = some 5 := rfl
    have step : forF (callD (FN lw) (n + 4)) [] (.tp [(.nm 3), (.nm 4)]) rndB (.tuple [.int i, row c x q p]) [some (.v (.list (all.map fr))), some (.v d1), some (.v (fr f)), u3, u4, u5, u6] =
        some (.nx, [some (.v (.list (all.map fr))), some (.v d1), some (.v (fr (addF f (worthL (restI c (exI x p).1 (exI x p).2 1) ps)))), some (.v (.int i)), some (.v (row c x q p)), some (.v (fr (worthL (restI c (exI x p).1 (exI x p).2 1) ps))), v]) := by
      unfold forF rndB row
      one_item
      rw [j5]
      one_item
      rw [for_run (xs := ps.map fr) (r1 := [some (.v (.list (all.map fr))), some (.v d1), some (.v (fr f)), some (.v (.int i)), some (.v (row c x q p)), some (.v (fr (restI c (exI x p).1 (exI x p).2 1))), u6]) (by
        one_item
        rw [cut]
        rfl) (by one_item) e1]
      one_item
      rw [c1]
      one_item
      rfl
    show forLoop _ (.tuple [.int (i : Nat), row c x q p] :: enmD (paper c (stpI c x p) qs ps) (i + 1)) _ = _
    rw [forLoop, step]
    exact e2
end
end Mp
end

/-! ## N3 -/
section
set_option linter.all false
set_option maxRecDepth 100000
namespace Mp
open PySem
local macro_rules | `(tactic| one_item) => `(tactic| simp (config := { decide := false }) only [↓bnd_p, bnd_s, bnd_n, runF_e, endF_nx, endF_rt, exs_c, exs_n, seqF_nx, seqF_rt, seqF_bk, seqF_ct, ex.eq_1, ex.eq_2, ex.eq_3, ex.eq_4, ex.eq_5, ex.eq_6, ex.eq_7, ex.eq_8, ex.eq_9, ex.eq_10, ex.eq_11, ex.eq_12, ex.eq_15, ex.eq_16, ex.eq_17, ex.eq_18, ev.eq_1, ev.eq_2, ev.eq_3, ev.eq_4, ev.eq_5, ev.eq_6, ev.eq_7, ev.eq_8, ev.eq_9, ev.eq_10, ev.eq_11, ev.eq_12, ev.eq_13, ev.eq_14, ev.eq_15, ev.eq_16, ev.eq_17, ev.eq_18, ev.eq_19, ev.eq_20, ev.eq_23, ev.eq_24, ev.eq_25, ev.eq_26, ev.eq_27, evs, evas, evac, evc, evo, evod, evit.eq_1, evit.eq_3, evit.eq_4, evit.eq_5, evit.eq_6, evit.eq_7, evOs, arB_cst, arC_cst, arB_bin, arC_bin, arB_neg, arC_neg, arB_not, arC_not, arB_cmp, arC_cmp, arB_chn, arC_chn, arB_and, arC_and, arB_or, arC_or, arB_ife, arC_ife, arB_tup, arC_tup, arB_lst, arC_lst, arB_dct, arC_dct, arB_idx, arC_idx, arB_slc, arC_slc, arB_stp, arC_stp, arB_cal, arC_cal, arB_blt, arC_blt, arB_mth, arC_mth, arB_isi, arC_isi, arB_lc, arC_lc, arB_dc, arC_dc, arB_pop, arC_pop, arB_app, arC_app, arB_ext, arC_ext, arB_upd, arC_upd, arB_fst, arC_fst, arB_n, arC_n, arN_s, rdA_v, rdA_s, rdAs, hand, ownSl, putB, nodO, isLst, selK, binO, cmpO, ownIx, outs, pairUp_n, pairUp_s, mrg_n, isOwn_v, isOwn_l, isOwn_d, isOO_v, isOO_l, isOO_d, isO_n, isO_b, isNn_n, isNn_i, isNn_b, isNn_s, isNn_t, isNn_l, notB, leO_i, geO_i, ltO_i, gtO_i, eqO, intsO_i, addO_i, addO_t, addO_l, mulO_i, bolO_b, intO_i, isiD, idxO_t, idxO_l, idxO_vl, dctO_d, dctO_v, seqD_l, seqD_t, seqD_vl, lstO_l, lstO_vl, tupO_t, blO, one_e, two_e, absO_i, intB_i, intB_b, onInts_l, onBools_l, min2_i, max2_i, len_t, len_l, len_vl, len_s, setO_l, ixSet_e, List.set_cons_zero, List.set_cons_succ, asgT_n, asgT_t, asgTs_n, asgTs_c, tgOk_n, tgOk_t, tgsOk_n, tgsOk_c, setOs, wipe, back, slcO_t, slcO_vl, slcO_l, itO_l, itO_vl, itO_t, frA, d_v, d_l, d_d, at_z, at_s, set_z, set_s, ixI_0, ixI_1, ixI_2, ixI_3, ixI_4, eqP_i, eqP_s, nc, List.length_cons, List.length_nil, List.map_cons, List.map_nil, List.cons_append, List.nil_append, List.append_nil, rep_s, rep_z, all_rep, Nat.reduceAdd, Nat.reduceSub, Nat.reduceEqDiff, List.getElem?_cons_zero, List.getElem?_cons_succ, ↓Option.bind_eq_bind, Option.bind_some, Option.bind_none, Option.map_some, Option.map_none, Option.pure_def, if_true, if_false, ite_true, ite_false, reduceIte, Bool.not_true, Bool.not_false, Bool.false_eq_true, List.any_cons, List.any_nil, List.contains_cons, List.contains_nil, Bool.or_false, Bool.false_or, Bool.or_self, Bool.and_true, Bool.true_and, Bool.and_self, Bool.and_false, Bool.false_and, Bool.or_true, Bool.true_or, List.nodup_nil, List.nodup_cons, List.mem_cons, List.not_mem_nil, or_false, or_self, not_false_eq_true, and_true, and_self, Nat.reduceEqDiff, Nat.succ_ne_zero, Nat.zero_ne_one, Nat.one_ne_zero, beq_self_eq_true, Nat.reduceBEq, Int.reduceMul, Int.reduceNeg, decide_true, decide_false, Int.reduceLT, Int.reduceLE, Int.reduceEq, Int.ofNat_eq_natCast])
local macro_rules | `(tactic| one_place) => `(tactic| simp (config := { decide := false }) only [↓bnd_p, bnd_s, bnd_n, runF_e, endF_nx, endF_rt, exs_c, exs_n, seqF_nx, seqF_rt, seqF_bk, seqF_ct, ex.eq_1, ex.eq_2, ex.eq_3, ex.eq_4, ex.eq_5, ex.eq_6, ex.eq_7, ex.eq_8, ex.eq_9, ex.eq_10, ex.eq_11, ex.eq_12, ex.eq_15, ex.eq_16, ex.eq_17, ex.eq_18, ev.eq_1, ev.eq_2, ev.eq_3, ev.eq_4, ev.eq_5, ev.eq_6, ev.eq_7, ev.eq_8, ev.eq_9, ev.eq_10, ev.eq_11, ev.eq_12, ev.eq_13, ev.eq_14, ev.eq_15, ev.eq_16, ev.eq_17, ev.eq_18, ev.eq_19, ev.eq_20, ev.eq_23, ev.eq_24, ev.eq_25, ev.eq_26, ev.eq_27, evs, evas, evac, evc, evo, evod, evit.eq_1, evit.eq_3, evit.eq_4, evit.eq_5, evit.eq_6, evit.eq_7, evOs, arB_cst, arC_cst, arB_bin, arC_bin, arB_neg, arC_neg, arB_not, arC_not, arB_cmp, arC_cmp, arB_chn, arC_chn, arB_and, arC_and, arB_or, arC_or, arB_ife, arC_ife, arB_tup, arC_tup, arB_lst, arC_lst, arB_dct, arC_dct, arB_idx, arC_idx, arB_slc, arC_slc, arB_stp, arC_stp, arB_cal, arC_cal, arB_blt, arC_blt, arB_mth, arC_mth, arB_isi, arC_isi, arB_lc, arC_lc, arB_dc, arC_dc, arB_pop, arC_pop, arB_app, arC_app, arB_ext, arC_ext, arB_upd, arC_upd, arB_fst, arC_fst, arB_n, arC_n, arN_s, rdA_v, rdA_s, rdAs, hand, ownSl, putB, nodO, isLst, selK, binO, cmpO, ownIx, outs, pairUp_n, pairUp_s, mrg_n, isOwn_v, isOwn_l, isOwn_d, isOO_v, isOO_l, isOO_d, isO_n, isO_b, isNn_n, isNn_i, isNn_b, isNn_s, isNn_t, isNn_l, notB, leO_i, geO_i, ltO_i, gtO_i, eqO, intsO_i, addO_i, addO_t, addO_l, mulO_i, bolO_b, intO_i, isiD, idxO_t, idxO_l, idxO_vl, dctO_d, dctO_v, seqD_l, seqD_t, seqD_vl, lstO_l, lstO_vl, tupO_t, blO, one_e, two_e, absO_i, intB_i, intB_b, onInts_l, onBools_l, min2_i, max2_i, len_t, len_l, len_vl, len_s, setO_l, ixSet_e, List.set_cons_zero, List.set_cons_succ, asgT_n, asgT_t, asgTs_n, asgTs_c, tgOk_n, tgOk_t, tgsOk_n, tgsOk_c, setOs, wipe, back, slcO_t, slcO_vl, slcO_l, itO_l, itO_vl, itO_t, frA, d_v, d_l, d_d, at_z, at_s, set_z, set_s, ixI_0, ixI_1, ixI_2, ixI_3, ixI_4, eqP_i, eqP_s, nc, List.length_cons, List.length_nil, List.map_cons, List.map_nil, List.cons_append, List.nil_append, List.append_nil, rep_s, rep_z, all_rep, Nat.reduceAdd, Nat.reduceSub, Nat.reduceEqDiff, List.getElem?_cons_zero, List.getElem?_cons_succ, ↓Option.bind_eq_bind, Option.bind_some, Option.bind_none, Option.map_some, Option.map_none, Option.pure_def, if_true, if_false, ite_true, ite_false, reduceIte, Bool.not_true, Bool.not_false, Bool.false_eq_true, List.any_cons, List.any_nil, List.contains_cons, List.contains_nil, Bool.or_false, Bool.false_or, Bool.or_self, Bool.and_true, Bool.true_and, Bool.and_self, Bool.and_false, Bool.false_and, Bool.or_true, Bool.true_or, List.nodup_nil, List.nodup_cons, List.mem_cons, List.not_mem_nil, or_false, or_self, not_false_eq_true, and_true, and_self, Nat.reduceEqDiff, Nat.succ_ne_zero, Nat.zero_ne_one, Nat.one_ne_zero, beq_self_eq_true, Nat.reduceBEq, Int.reduceMul, Int.reduceNeg, decide_true, decide_false, Int.reduceLT, Int.reduceLE, Int.reduceEq, Int.ofNat_eq_natCast, *])
section
variable {lw : List Fd} (n : Nat)
theorem roundings_by_r (c : Str) (ps : List (Int × Int)) (x : Int) (qs : List (Str × Str)) (hl : qs.length = ps.length) (h5 : ps.length ≤ 5) (hp : ∀ p ∈ ps, RtOk p) {k : Nat} (hx : Bd k x) (hk : k ≤ 1000) :
    callD (FN lw) (n + 5) 63 [.v (.list (ps.map fr)), .v (.tuple (paper c x qs ps))] = some (.v (fr (rndL c x ps (0, 1))), [.v (.list (ps.map fr)), .v (.tuple (paper c x qs ps))]) := by
  have one : Bd 1 (1 : Int) := by unfold Bd; decide
  have zero : Bd 1 (0 : Int) := by unfold Bd; decide
  obtain ⟨v3, v4, v5, v6, e⟩ := rnd_loop (lw := lw) n c ps h5 (.tuple (paper c x qs ps)) qs ps 0 x (0, 1) k 1 none none none none hl rfl hp Int.one_pos hx zero one (by omega) (by omega)
  rw [callS (fd := Lib.b_roundings_by) rfl]
  unfold Lib.b_roundings_by
  one_item
  rw [for_run (r1 := [some (.v (.list (ps.map fr))), some (.v (.tuple (paper c x qs ps))), some (.v (fr (0, 1))), none, none, none, none]) (by one_item; rfl) (by one_item) e]
  one_item
abbrev btwB : List CS := [(.asg (.nm 10) (.cal 34 [(.nm 0), (.nm 1), (.nm 9)] [] [])), (.asg (.nm 11) (.cal 35 [(.nm 5), (.nm 10), (.nm 2), (.nm 9)] [] [])), (.exp (.app 6 (.tup [(.idx (.idx (.nm 11) (.neg (.cst (.int 1)))) (.cst (.int 4))), (.cst (.int 1))]))), (.exp (.app 7 (.cal 36 [(.nm 10), (.nm 2)] [] []))), (.exp (.app 8 (.cal 63 [(.nm 10), (.nm 11)] [] [])))]
abbrev btwS (re : D) (day x : Int) (rd od : D) (c : Str) (e w z : List D) (u9 u10 u11 : Option O) : En := [some (.v re), some (.v (.int day)), some (.v (.int x)), some (.v rd), some (.v od), some (.v (.str c)), some (.lst e), some (.lst w), some (.lst z), u9, u10, u11, none]
theorem btw_turn (R : RulesT) (hR : RulesOk R) (day : Int) (x : Int) (hx : Bd 100 x) (road : List Str) (h : RoadOk R day road) (rd od : D) (c : Str) (e w z : List D) (h6 : e.length ≤ 9) (h7 : w.length ≤ 9) (h8 : z.length ≤ 9) (u9 u10 u11 : Option O) :
    ∃ v9 v10 v11, forF (callD (FN lw) (n + 7)) [] (.nm 9) btwB (.tuple (road.map .str)) (btwS R.enc day x rd od c e w z u9 u10 u11) =
      some (.nx, btwS R.enc day x rd od c (e ++ [fr (endI c x (ratesOf R day road), 1)]) (w ++ [fr (worthL (x, 1) (ratesOf R day road))]) (z ++ [fr (rndL c x (ratesOf R day road) (0, 1))]) v9 v10 v11) := by
  have hps := ratesOf_ok hR h
  have ln : (pairs road).length = (ratesOf R day road).length := (List.length_map _).symm
  have lp := pairs_len road
  have hl := h.len
  have c1 := rates_of_r (lw := lw) (n + 3) R hR day road h
  generalize hE : ratesOf R day road = ps at *
  have h5 : ps.length ≤ 5 := by omega
  obtain ⟨a, b, y, ee, r, hlast⟩ := paper_last c (pairs road) ps x ln (by
    intro q
    rw [q] at ln
    simp only [List.length_nil] at ln
    omega)
  have c2 := paper_by_l (lw := lw) (n + 2) c ps x road ln hps hx (by omega) (by omega)
  have c3 := worth_by_r (lw := lw) (n + 3) ps x hps hx (by omega)
  have c4 := roundings_by_r (lw := lw) (n + 2) c ps x (pairs road) ln h5 hps hx (by decide)
  have s6 : e.length < SZ := Nat.lt_of_lt_of_le (by omega : e.length < 1000) (by decide)
  have s7 : w.length < SZ := Nat.lt_of_lt_of_le (by omega : w.length < 1000) (by decide)
  have s8 : z.length < SZ := Nat.lt_of_lt_of_le (by omega : z.length < 1000) (by decide)
  have i1 := last_ix hlast
  have i2 := last_get hlast
  generalize R.enc = re at *
  generalize hpp : paper c x (pairs road) ps = pp at *
  refine ⟨some (.v (.tuple (road.map .str))), some (.v (.list (ps.map fr))), some (.v (.tuple pp)), ?_⟩
  unfold forF btwB btwS
  one_item
  rw [c1]
  one_item
  rw [c2]
  one_item
  rw [i1]
  one_item
  rw [i2]
  one_item
  rw [if_pos s6]
  one_item
  rw [c3]
  one_item
  rw [if_pos s7]
  one_item
  rw [c4]
  one_item
  rw [if_pos s8]
  one_item
  rfl
theorem endI_bd0 {c : Str} : ∀ {ps : List (Int × Int)} {x : Int} {k : Nat}, (∀ p ∈ ps, RtOk p) → Bd k x → Bd (k + 17 * ps.length) (endI c x ps)
  | [], x, k, _, h => h
  | p :: ps, x, k, hp, h => by
    have := endI_bd0 (c := c) (ps := ps) (fun r hr => hp r (List.mem_cons_of_mem _ hr)) (stpI_bd (c := c) (hp p List.mem_cons_self) h)
    rw [List.length_cons]
    exact this.mono (by omega)
theorem rnd_bd {c : Str} : ∀ {ps : List (Int × Int)} {x : Int} {f : Int × Int} {k l : Nat}, (∀ p ∈ ps, RtOk p) → ps.length ≤ 5 → Bd k x → 0 < f.2 → Bd l f.1 → Bd l f.2 → 0 < (rndL c x ps f).2 ∧ Bd (l + 104 * ps.length) (rndL c x ps f).1 ∧ Bd (l + 104 * ps.length) (rndL c x ps f).2
  | [], x, f, k, l, _, _, _, h, b1, b2 => ⟨h, b1, b2⟩
  | p :: ps, x, f, k, l, hp, hl, hx, h, b1, b2 => by
    have ok := hp p List.mem_cons_self
    have hps : ∀ r ∈ ps, RtOk r := fun r hr => hp r (List.mem_cons_of_mem _ hr)
    rw [List.length_cons] at hl
    obtain ⟨r0, r1, r2⟩ := rest_bd (c := c) ok hx
    obtain ⟨w0, w1, w2⟩ := worthL_bd0 (ps := ps) hps r0 r1 r2
    have hw : 18 + 17 * ps.length ≤ 103 := by omega
    obtain ⟨a0, a1, a2⟩ := add_bd h w0 b1 b2 (w1.mono hw) (w2.mono hw)
    obtain ⟨i0, i1, i2⟩ := rnd_bd (c := c) (ps := ps) hps (by omega) (stpI_bd (c := c) ok hx) a0 a1 a2
    rw [List.length_cons]
    exact ⟨i0, i1.mono (by omega), i2.mono (by omega)⟩
abbrev btwE (re : D) (day x : Int) (rd od : D) (c : Str) (e w z : List D) (u9 u10 u11 u12 : Option O) : En := [some (.v re), some (.v (.int day)), some (.v (.int x)), some (.v rd), some (.v od), some (.v (.str c)), some (.v (.list e)), some (.v (.list w)), some (.v (.list z)), u9, u10, u11, u12]
theorem between_r (R : RulesT) (hR : RulesOk R) (day : Int) (hd : 0 ≤ day ∧ day ≤ 9999) (x : Int) (hx : Bd 100 x) (road other : List Str) (h : RoadOk R day road) (h' : RoadOk R day other)
    {a z : Str} (h1 : (road.map PyData.str).head? = some (.str a)) (h2 : (road.map PyData.str).getLast? = some (.str z)) (h3 : (other.map PyData.str).head? = some (.str a)) (h4 : (other.map PyData.str).getLast? = some (.str z)) :
    callD (FN lw) (n + 8) 66 [.v R.enc, .v (.int day), .v (.int x), .v (.tuple (road.map .str)), .v (.tuple (other.map .str))] =
      some (.v (.tuple [fr (endI (customAt R.cus day) x (ratesOf R day road) - endI (customAt R.cus day) x (ratesOf R day other), 1),
        fr (subF (worthL (x, 1) (ratesOf R day road)) (worthL (x, 1) (ratesOf R day other))),
        fr (subF (rndL (customAt R.cus day) x (ratesOf R day road) (0, 1)) (rndL (customAt R.cus day) x (ratesOf R day other) (0, 1)))]),
        [.v R.enc, .v (.int day), .v (.int x), .v (.tuple (road.map .str)), .v (.tuple (other.map .str))]) := by
  have c1 := need_case_r (lw := lw) n R hR day hd x road h
  have c2 := need_road_r (lw := lw) (n + 2) R hR day other h'
  have c3 := same_ends_r (lw := lw) (n + 6) h1 h2 h3 h4
  have c4 := custom_at_r (lw := lw) (n + 6) R day
  generalize hc : customAt R.cus day = c at *
  obtain ⟨v9, v10, v11, t1⟩ := btw_turn (lw := lw) n R hR day x hx road h (.tuple (road.map .str)) (.tuple (other.map .str)) c [] [] [] (by simp) (by simp) (by simp) none none none
  obtain ⟨w9, w10, w11, t2⟩ := btw_turn (lw := lw) n R hR day x hx other h' (.tuple (road.map .str)) (.tuple (other.map .str)) c [fr (endI c x (ratesOf R day road), 1)] [fr (worthL (x, 1) (ratesOf R day road))] [fr (rndL c x (ratesOf R day road) (0, 1))] (by simp) (by simp) (by simp) v9 v10 v11
  have p1 := ratesOf_ok hR h
  have p2 := ratesOf_ok hR h'
  have l1 : (ratesOf R day road).length ≤ 5 := by
    have : (ratesOf R day road).length = (pairs road).length := List.length_map _
    have := pairs_len road
    have := h.len
    omega
  have l2 : (ratesOf R day other).length ≤ 5 := by
    have : (ratesOf R day other).length = (pairs other).length := List.length_map _
    have := pairs_len other
    have := h'.len
    omega
  generalize hE1 : ratesOf R day road = ps at *
  generalize hE2 : ratesOf R day other = qs at *
  generalize R.enc = re at *
  generalize PyData.tuple (road.map PyData.str) = rd at *
  generalize PyData.tuple (other.map PyData.str) = od at *
  have one : Bd 1 (1 : Int) := by unfold Bd; decide
  have zero : Bd 1 (0 : Int) := by unfold Bd; decide
  have ok : ∀ b ∈ [((endI c x ps, (1 : Int)), (endI c x qs, (1 : Int))), (worthL (x, 1) ps, worthL (x, 1) qs), (rndL c x ps (0, 1), rndL c x qs (0, 1))], (0 < b.1.2 ∧ 0 < b.2.2) ∧ (Bd 700 b.1.1 ∧ Bd 700 b.1.2) ∧ (Bd 700 b.2.1 ∧ Bd 700 b.2.2) := fun b hb => by
    simp only [List.mem_cons, List.not_mem_nil, or_false] at hb
    rcases hb with rfl | rfl | rfl
    · exact ⟨⟨Int.one_pos, Int.one_pos⟩, ⟨(endI_bd0 p1 hx).mono (by omega), one.mono (by decide)⟩, ⟨(endI_bd0 p2 hx).mono (by omega), one.mono (by decide)⟩⟩
    · obtain ⟨a0, a1, a2⟩ := worthL_bd0 (q := (x, 1)) (k := 100) p1 Int.one_pos hx (one.mono (by decide))
      obtain ⟨b0, b1, b2⟩ := worthL_bd0 (q := (x, 1)) (k := 100) p2 Int.one_pos hx (one.mono (by decide))
      exact ⟨⟨a0, b0⟩, ⟨a1.mono (by omega), a2.mono (by omega)⟩, ⟨b1.mono (by omega), b2.mono (by omega)⟩⟩
    · obtain ⟨a0, a1, a2⟩ := rnd_bd (c := c) (f := (0, 1)) p1 l1 hx Int.one_pos zero one
      obtain ⟨b0, b1, b2⟩ := rnd_bd (c := c) (f := (0, 1)) p2 l2 hx Int.one_pos zero one
      exact ⟨⟨a0, b0⟩, ⟨a1.mono (by omega), a2.mono (by omega)⟩, ⟨b1.mono (by omega), b2.mono (by omega)⟩⟩
  have e1 : forLoop (forF (callD (FN lw) (n + 7)) [] (.nm 9) btwB) [rd, od] (btwS re day x rd od c [] [] [] none none none) = some (.nx, btwS re day x rd od c [fr (endI c x ps, 1), fr (endI c x qs, 1)] [fr (worthL (x, 1) ps), fr (worthL (x, 1) qs)] [fr (rndL c x ps (0, 1)), fr (rndL c x qs (0, 1))] w9 w10 w11) := by
    simp only [List.cons_append, List.nil_append] at t1 t2
    rw [forLoop, t1]
    show forLoop _ [od] _ = _
    rw [forLoop, t2]
    rfl
  obtain ⟨r', e2, ⟨u, rfl⟩⟩ := lc_filter (f := lcF (callD (FN lw) (n + 7)) [12] (.cal 10 [(.idx (.nm 12) (.cst (.int 0))), (.idx (.nm 12) (.cst (.int 1)))] [] []) (.nm 12) []) (fun s => ∃ u, s = btwE re day x rd od c [fr (endI c x ps, 1), fr (endI c x qs, 1)] [fr (worthL (x, 1) ps), fr (worthL (x, 1) qs)] [fr (rndL c x ps (0, 1)), fr (rndL c x qs (0, 1))] w9 w10 w11 u)
    (enc := fun b : (Int × Int) × (Int × Int) => .list [fr b.1, fr b.2]) (p := fun _ => true) (G := fun b => fr (subF b.1 b.2)) (xs := [((endI c x ps, (1 : Int)), (endI c x qs, (1 : Int))), (worthL (x, 1) ps, worthL (x, 1) qs), (rndL c x ps (0, 1), rndL c x qs (0, 1))]) (fun b hb s ⟨u, e⟩ => by
    subst e
    obtain ⟨⟨q1, q2⟩, ⟨q3, q4⟩, ⟨q5, q6⟩⟩ := ok b hb
    have m := minus_f (lw := lw) (n + 4) q1 q2 q3 q4 q5 q6 (by decide)
    refine ⟨btwE re day x rd od c [fr (endI c x ps, 1), fr (endI c x qs, 1)] [fr (worthL (x, 1) ps), fr (worthL (x, 1) qs)] [fr (rndL c x ps (0, 1)), fr (rndL c x qs (0, 1))] w9 w10 w11 (some (.v (.list [fr b.1, fr b.2]))), ?_, ⟨_, rfl⟩⟩
    unfold lcF btwE
    one_item
    rw [m]
    one_item
    rfl) (btwE re day x rd od c [fr (endI c x ps, 1), fr (endI c x qs, 1)] [fr (worthL (x, 1) ps), fr (worthL (x, 1) qs)] [fr (rndL c x ps (0, 1)), fr (rndL c x qs (0, 1))] w9 w10 w11 none) ⟨_, rfl⟩
  rw [callS (fd := Lib.b_between) rfl]
  unfold Lib.b_between
  one_item
  rw [c1]
  one_item
  rw [c2]
  one_item
  rw [c3]
  one_item
  rw [c4]
  one_item
  rw [for_run (xs := [rd, od]) (r1 := btwS re day x rd od c [] [] [] none none none) (by one_item) (by one_item) e1]
  one_item
  rw [lc_run (xs := [.list [fr (endI c x ps, 1), fr (endI c x qs, 1)], .list [fr (worthL (x, 1) ps), fr (worthL (x, 1) qs)], .list [fr (rndL c x ps (0, 1)), fr (rndL c x qs (0, 1))]]) (r1 := btwE re day x rd od c [fr (endI c x ps, 1), fr (endI c x qs, 1)] [fr (worthL (x, 1) ps), fr (worthL (x, 1) qs)] [fr (rndL c x ps (0, 1)), fr (rndL c x qs (0, 1))] w9 w10 w11 none) (by one_item) e2]
  one_item
  rw [← sub_ints]
  rfl
end
end Mp
end

/-! ## N4 -/
section
set_option linter.all false
set_option maxRecDepth 100000
namespace Mp
open PySem
local macro_rules | `(tactic| one_item) => `(tactic| simp (config := { decide := false }) only [↓bnd_p, bnd_s, bnd_n, runF_e, endF_nx, endF_rt, exs_c, exs_n, seqF_nx, seqF_rt, seqF_bk, seqF_ct, ex.eq_1, ex.eq_2, ex.eq_3, ex.eq_4, ex.eq_5, ex.eq_6, ex.eq_7, ex.eq_8, ex.eq_9, ex.eq_10, ex.eq_11, ex.eq_12, ex.eq_15, ex.eq_16, ex.eq_17, ex.eq_18, ev.eq_1, ev.eq_2, ev.eq_3, ev.eq_4, ev.eq_5, ev.eq_6, ev.eq_7, ev.eq_8, ev.eq_9, ev.eq_10, ev.eq_11, ev.eq_12, ev.eq_13, ev.eq_14, ev.eq_15, ev.eq_16, ev.eq_17, ev.eq_18, ev.eq_19, ev.eq_20, ev.eq_23, ev.eq_24, ev.eq_25, ev.eq_26, ev.eq_27, evs, evas, evac, evc, evo, evod, evit.eq_1, evit.eq_3, evit.eq_4, evit.eq_5, evit.eq_6, evit.eq_7, evOs, arB_cst, arC_cst, arB_bin, arC_bin, arB_neg, arC_neg, arB_not, arC_not, arB_cmp, arC_cmp, arB_chn, arC_chn, arB_and, arC_and, arB_or, arC_or, arB_ife, arC_ife, arB_tup, arC_tup, arB_lst, arC_lst, arB_dct, arC_dct, arB_idx, arC_idx, arB_slc, arC_slc, arB_stp, arC_stp, arB_cal, arC_cal, arB_blt, arC_blt, arB_mth, arC_mth, arB_isi, arC_isi, arB_lc, arC_lc, arB_dc, arC_dc, arB_pop, arC_pop, arB_app, arC_app, arB_ext, arC_ext, arB_upd, arC_upd, arB_fst, arC_fst, arB_n, arC_n, arN_s, rdA_v, rdA_s, rdAs, hand, ownSl, putB, nodO, isLst, selK, binO, cmpO, ownIx, outs, pairUp_n, pairUp_s, mrg_n, isOwn_v, isOwn_l, isOwn_d, isOO_v, isOO_l, isOO_d, isO_n, isO_b, isNn_n, isNn_i, isNn_b, isNn_s, isNn_t, isNn_l, notB, leO_i, geO_i, ltO_i, gtO_i, eqO, intsO_i, addO_i, addO_t, addO_l, mulO_i, bolO_b, intO_i, isiD, idxO_t, idxO_l, idxO_vl, dctO_d, dctO_v, seqD_l, seqD_t, seqD_vl, lstO_l, lstO_vl, tupO_t, blO, one_e, two_e, absO_i, intB_i, intB_b, onInts_l, onBools_l, min2_i, max2_i, len_t, len_l, len_vl, len_s, setO_l, ixSet_e, List.set_cons_zero, List.set_cons_succ, asgT_n, asgT_t, asgTs_n, asgTs_c, tgOk_n, tgOk_t, tgsOk_n, tgsOk_c, setOs, wipe, back, slcO_t, slcO_vl, slcO_l, itO_l, itO_vl, itO_t, frA, d_v, d_l, d_d, at_z, at_s, set_z, set_s, ixI_0, ixI_1, ixI_2, ixI_3, ixI_4, eqP_i, eqP_s, nc, List.length_cons, List.length_nil, List.map_cons, List.map_nil, List.cons_append, List.nil_append, List.append_nil, rep_s, rep_z, all_rep, Nat.reduceAdd, Nat.reduceSub, Nat.reduceEqDiff, List.getElem?_cons_zero, List.getElem?_cons_succ, ↓Option.bind_eq_bind, Option.bind_some, Option.bind_none, Option.map_some, Option.map_none, Option.pure_def, if_true, if_false, ite_true, ite_false, reduceIte, Bool.not_true, Bool.not_false, Bool.false_eq_true, List.any_cons, List.any_nil, List.contains_cons, List.contains_nil, Bool.or_false, Bool.false_or, Bool.or_self, Bool.and_true, Bool.true_and, Bool.and_self, Bool.and_false, Bool.false_and, Bool.or_true, Bool.true_or, List.nodup_nil, List.nodup_cons, List.mem_cons, List.not_mem_nil, or_false, or_self, not_false_eq_true, and_true, and_self, Nat.reduceEqDiff, Nat.succ_ne_zero, Nat.zero_ne_one, Nat.one_ne_zero, beq_self_eq_true, Nat.reduceBEq, Int.reduceMul, Int.reduceNeg, decide_true, decide_false, Int.reduceLT, Int.reduceLE, Int.reduceEq, Int.ofNat_eq_natCast])
local macro_rules | `(tactic| one_place) => `(tactic| simp (config := { decide := false }) only [↓bnd_p, bnd_s, bnd_n, runF_e, endF_nx, endF_rt, exs_c, exs_n, seqF_nx, seqF_rt, seqF_bk, seqF_ct, ex.eq_1, ex.eq_2, ex.eq_3, ex.eq_4, ex.eq_5, ex.eq_6, ex.eq_7, ex.eq_8, ex.eq_9, ex.eq_10, ex.eq_11, ex.eq_12, ex.eq_15, ex.eq_16, ex.eq_17, ex.eq_18, ev.eq_1, ev.eq_2, ev.eq_3, ev.eq_4, ev.eq_5, ev.eq_6, ev.eq_7, ev.eq_8, ev.eq_9, ev.eq_10, ev.eq_11, ev.eq_12, ev.eq_13, ev.eq_14, ev.eq_15, ev.eq_16, ev.eq_17, ev.eq_18, ev.eq_19, ev.eq_20, ev.eq_23, ev.eq_24, ev.eq_25, ev.eq_26, ev.eq_27, evs, evas, evac, evc, evo, evod, evit.eq_1, evit.eq_3, evit.eq_4, evit.eq_5, evit.eq_6, evit.eq_7, evOs, arB_cst, arC_cst, arB_bin, arC_bin, arB_neg, arC_neg, arB_not, arC_not, arB_cmp, arC_cmp, arB_chn, arC_chn, arB_and, arC_and, arB_or, arC_or, arB_ife, arC_ife, arB_tup, arC_tup, arB_lst, arC_lst, arB_dct, arC_dct, arB_idx, arC_idx, arB_slc, arC_slc, arB_stp, arC_stp, arB_cal, arC_cal, arB_blt, arC_blt, arB_mth, arC_mth, arB_isi, arC_isi, arB_lc, arC_lc, arB_dc, arC_dc, arB_pop, arC_pop, arB_app, arC_app, arB_ext, arC_ext, arB_upd, arC_upd, arB_fst, arC_fst, arB_n, arC_n, arN_s, rdA_v, rdA_s, rdAs, hand, ownSl, putB, nodO, isLst, selK, binO, cmpO, ownIx, outs, pairUp_n, pairUp_s, mrg_n, isOwn_v, isOwn_l, isOwn_d, isOO_v, isOO_l, isOO_d, isO_n, isO_b, isNn_n, isNn_i, isNn_b, isNn_s, isNn_t, isNn_l, notB, leO_i, geO_i, ltO_i, gtO_i, eqO, intsO_i, addO_i, addO_t, addO_l, mulO_i, bolO_b, intO_i, isiD, idxO_t, idxO_l, idxO_vl, dctO_d, dctO_v, seqD_l, seqD_t, seqD_vl, lstO_l, lstO_vl, tupO_t, blO, one_e, two_e, absO_i, intB_i, intB_b, onInts_l, onBools_l, min2_i, max2_i, len_t, len_l, len_vl, len_s, setO_l, ixSet_e, List.set_cons_zero, List.set_cons_succ, asgT_n, asgT_t, asgTs_n, asgTs_c, tgOk_n, tgOk_t, tgsOk_n, tgsOk_c, setOs, wipe, back, slcO_t, slcO_vl, slcO_l, itO_l, itO_vl, itO_t, frA, d_v, d_l, d_d, at_z, at_s, set_z, set_s, ixI_0, ixI_1, ixI_2, ixI_3, ixI_4, eqP_i, eqP_s, nc, List.length_cons, List.length_nil, List.map_cons, List.map_nil, List.cons_append, List.nil_append, List.append_nil, rep_s, rep_z, all_rep, Nat.reduceAdd, Nat.reduceSub, Nat.reduceEqDiff, List.getElem?_cons_zero, List.getElem?_cons_succ, ↓Option.bind_eq_bind, Option.bind_some, Option.bind_none, Option.map_some, Option.map_none, Option.pure_def, if_true, if_false, ite_true, ite_false, reduceIte, Bool.not_true, Bool.not_false, Bool.false_eq_true, List.any_cons, List.any_nil, List.contains_cons, List.contains_nil, Bool.or_false, Bool.false_or, Bool.or_self, Bool.and_true, Bool.true_and, Bool.and_self, Bool.and_false, Bool.false_and, Bool.or_true, Bool.true_or, List.nodup_nil, List.nodup_cons, List.mem_cons, List.not_mem_nil, or_false, or_self, not_false_eq_true, and_true, and_self, Nat.reduceEqDiff, Nat.succ_ne_zero, Nat.zero_ne_one, Nat.one_ne_zero, beq_self_eq_true, Nat.reduceBEq, Int.reduceMul, Int.reduceNeg, decide_true, decide_false, Int.reduceLT, Int.reduceLE, Int.reduceEq, Int.ofNat_eq_natCast, *])
section
variable {lw : List Fd} (n : Nat)
theorem like_i (i j : Int) : callD (FN lw) (n + 2) 64 [.v (.int i), .v (.int j)] = some (.v (.bool (decide (i = j))), [.v (.int i), .v (.int j)]) := by
  have c1 := is_whole_i (lw := lw) n i
  rw [callS (fd := Lib.b_is_like) rfl]
  unfold Lib.b_is_like
  one_item
  rw [c1]
  one_item
theorem like_s (i j : Str) : callD (FN lw) (n + 1) 64 [.v (.str i), .v (.str j)] = some (.v (.bool (decide (i = j))), [.v (.str i), .v (.str j)]) := by
  rw [callS (fd := Lib.b_is_like) rfl]
  unfold Lib.b_is_like
  one_item
abbrev Tri := D × D × Bool
theorem zip_tri : ∀ zs : List Tri, zipD (zs.map (·.1)) (zs.map (·.2.1)) = zs.map fun t => .tuple [t.1, t.2.1]
  | [] => rfl
  | t :: zs => by
    rw [List.map_cons, List.map_cons, zipD, zip_tri zs]
    rfl
theorem like_t (zs : List Tri) (h : ∀ t ∈ zs, callD (FN lw) n 64 [.v t.1, .v t.2.1] = some (.v (.bool t.2.2), [.v t.1, .v t.2.1])) :
    callD (FN lw) (n + 1) 64 [.v (.tuple (zs.map (·.1))), .v (.tuple (zs.map (·.2.1)))] = some (.v (.bool (zs.all (·.2.2))), [.v (.tuple (zs.map (·.1))), .v (.tuple (zs.map (·.2.1)))]) := by
  have hl : ((zs.map (·.1)).length : Int) = (zs.map (·.2.1)).length := by rw [List.length_map, List.length_map]
  have hz := zip_tri zs
  obtain ⟨r', e2, ⟨u, v, rfl⟩⟩ := lc_filter (f := lcF (callD (FN lw) n) [2, 3] (.cal 64 [(.nm 2), (.nm 3)] [] []) (.tp [(.nm 2), (.nm 3)]) []) (fun s => ∃ u v, s = [some (.v (.tuple (zs.map (·.1)))), some (.v (.tuple (zs.map (·.2.1)))), u, v])
    (enc := fun t : Tri => .tuple [t.1, t.2.1]) (p := fun _ => true) (G := fun t => .bool t.2.2) (xs := zs) (fun t ht s ⟨u, v, e⟩ => by
    subst e
    have q := h t ht
    refine ⟨[some (.v (.tuple (zs.map (·.1)))), some (.v (.tuple (zs.map (·.2.1)))), some (.v t.1), some (.v t.2.1)], ?_, ⟨_, _, rfl⟩⟩
    unfold lcF
    one_item
    rw [q]
    one_item) [some (.v (.tuple (zs.map (·.1)))), some (.v (.tuple (zs.map (·.2.1)))), none, none] ⟨_, _, rfl⟩
  have hb : (zs.filter fun _ => true).map (fun t : Tri => PyData.bool t.2.2) = (zs.map (·.2.2)).map PyData.bool := by
    rw [List.filter_eq_self.mpr fun _ _ => rfl, List.map_map]
    rfl
  rw [hb] at e2
  generalize hxs : zs.map (·.1) = xs at *
  generalize hys : zs.map (·.2.1) = ys at *
  rw [callS (fd := Lib.b_is_like) rfl]
  unfold Lib.b_is_like
  one_item
  rw [decide_eq_true hl]
  one_item
  rw [lc_run (xs := zs.map fun t => .tuple [t.1, t.2.1]) (r1 := [some (.v (.tuple xs)), some (.v (.tuple ys)), none, none]) (by
    one_item
    rw [← hz]
    rfl) e2]
  one_item
  rw [List.all_map]
  rfl
def frb (p q : Int × Int) : Bool := [decide (p.1 = q.1), decide (p.2 = q.2)].all id
theorem like_fr (p q : Int × Int) : callD (FN lw) (n + 3) 64 [.v (fr p), .v (fr q)] = some (.v (.bool (frb p q)), [.v (fr p), .v (fr q)]) := by
  have := like_t (lw := lw) (n + 2) [(.int p.1, .int q.1, decide (p.1 = q.1)), (.int p.2, .int q.2, decide (p.2 = q.2))] (fun t ht => by
    simp only [List.mem_cons, List.not_mem_nil, or_false] at ht
    rcases ht with rfl | rfl
    · exact like_i _ _ _
    · exact like_i _ _ _)
  exact this
theorem frb_self (p : Int × Int) : frb p p = true := by
  unfold frb
  simp
/-- two rows of papers of the same road, from x and y coins on -/
def rowb (c : Str) (x y : Int) (p : Int × Int) : Bool := [true, true, decide (x = y), frb (exI x p) (exI y p), decide (stpI c x p = stpI c y p), frb (restI c (exI x p).1 (exI x p).2 1) (restI c (exI y p).1 (exI y p).2 1)].all id
theorem like_row (c : Str) (x y : Int) (q : Str × Str) (p : Int × Int) : callD (FN lw) (n + 4) 64 [.v (row c x q p), .v (row c y q p)] = some (.v (.bool (rowb c x y p)), [.v (row c x q p), .v (row c y q p)]) := by
  have := like_t (lw := lw) (n + 3) [(.str q.1, .str q.1, true), (.str q.2, .str q.2, true), (.int x, .int y, decide (x = y)), (fr (exI x p), fr (exI y p), frb (exI x p) (exI y p)), (.int (stpI c x p), .int (stpI c y p), decide (stpI c x p = stpI c y p)), (fr (restI c (exI x p).1 (exI x p).2 1), fr (restI c (exI y p).1 (exI y p).2 1), frb (restI c (exI x p).1 (exI x p).2 1) (restI c (exI y p).1 (exI y p).2 1))] (fun t ht => by
    simp only [List.mem_cons, List.not_mem_nil, or_false] at ht
    rcases ht with rfl | rfl | rfl | rfl | rfl | rfl
    · rw [like_s (lw := lw) (n + 2) q.1 q.1, decide_eq_true rfl]
    · rw [like_s (lw := lw) (n + 2) q.2 q.2, decide_eq_true rfl]
    · exact like_i _ _ _
    · exact like_fr _ _ _
    · exact like_i _ _ _
    · exact like_fr _ _ _)
  exact this
def paperb (c : Str) : Int → Int → List (Str × Str) → List (Int × Int) → List Tri
  | x, y, q :: qs, p :: ps => (row c x q p, row c y q p, rowb c x y p) :: paperb c (stpI c x p) (stpI c y p) qs ps
  | _, _, _, _ => []
theorem paperb_p (c : Str) : ∀ (qs : List (Str × Str)) (ps : List (Int × Int)) (x y : Int), (paperb c x y qs ps).map (·.1) = paper c x qs ps ∧ (paperb c x y qs ps).map (·.2.1) = paper c y qs ps ∧
    (∀ t ∈ paperb c x y qs ps, ∃ x y q p, t = (row c x q p, row c y q p, rowb c x y p)) ∧ (x = y → (paperb c x y qs ps).all (·.2.2) = true)
  | [], ps, x, y => by
    have e1 : paperb c x y [] ps = [] := by
      unfold paperb
      rfl
    have e2 : ∀ x, paper c x [] ps = [] := fun x => by
      unfold paper
      rfl
    rw [e1, e2, e2]
    exact ⟨rfl, rfl, (fun _ h => nomatch h), fun _ => rfl⟩
  | q :: qs, [], x, y => by
    have e1 : paperb c x y (q :: qs) [] = [] := by
      unfold paperb
      rfl
    have e2 : ∀ x, paper c x (q :: qs) [] = [] := fun x => by
      unfold paper
      rfl
    rw [e1, e2, e2]
    exact ⟨rfl, rfl, (fun _ h => nomatch h), fun _ => rfl⟩
  | q :: qs, p :: ps, x, y => by
    obtain ⟨i1, i2, i3, i4⟩ := paperb_p c qs ps (stpI c x p) (stpI c y p)
    have e1 : paperb c x y (q :: qs) (p :: ps) = (row c x q p, row c y q p, rowb c x y p) :: paperb c (stpI c x p) (stpI c y p) qs ps := by
      rw [paperb]
    have e2 : ∀ x, paper c x (q :: qs) (p :: ps) = row c x q p :: paper c (stpI c x p) qs ps := fun x => by
      rw [paper]
    rw [e1, e2, e2, List.map_cons, List.map_cons, i1, i2]
    refine ⟨rfl, rfl, fun t ht => ?_, fun h => ?_⟩
    · rcases List.mem_cons.mp ht with rfl | ht
      · exact ⟨x, y, q, p, rfl⟩
      · exact i3 t ht
    · subst h
      rw [List.all_cons, i4 rfl]
      show (rowb c x x p && true) = true
      unfold rowb
      rw [frb_self, frb_self]
      simp
theorem like_paper (c : Str) (x y : Int) (qs : List (Str × Str)) (ps : List (Int × Int)) : callD (FN lw) (n + 5) 64 [.v (.tuple (paper c x qs ps)), .v (.tuple (paper c y qs ps))] = some (.v (.bool ((paperb c x y qs ps).all (·.2.2))), [.v (.tuple (paper c x qs ps)), .v (.tuple (paper c y qs ps))]) := by
  obtain ⟨i1, i2, i3, i4⟩ := paperb_p c qs ps x y
  have := like_t (lw := lw) (n + 4) (paperb c x y qs ps) (fun t ht => by
    obtain ⟨x', y', q, p, rfl⟩ := i3 t ht
    exact like_row _ _ _ _ _ _)
  rw [i1, i2] at this
  exact this
theorem paper_ne {c : Str} {x y : Int} (hxy : x ≠ y) {qs : List (Str × Str)} {ps : List (Int × Int)} (hl : qs.length = ps.length) (hn : ps ≠ []) : (paperb c x y qs ps).all (·.2.2) = false := by
  cases ps with
  | nil => exact absurd rfl hn
  | cons p ps =>
    cases qs with
    | nil => simp at hl
    | cons q qs =>
      rw [paperb, List.all_cons]
      show (rowb c x y p && _) = false
      have : rowb c x y p = false := by
        unfold rowb
        simp [hxy]
      rw [this, Bool.false_and]
theorem is_along_r (R : RulesT) (hR : RulesOk R) (day : Int) (hd : 0 ≤ day ∧ day ≤ 9999) (x y : Int) (hy : Bd 200 y) (road : List Str) (h : RoadOk R day road) :
    callD (FN lw) (n + 9) 65 [.v R.enc, .v (.int day), .v (.int y), .v (.tuple (road.map .str)), .v (.tuple (paper (customAt R.cus day) x (pairs road) (ratesOf R day road)))] =
      some (.v (.bool (decide (x = y))), [.v R.enc, .v (.int day), .v (.int y), .v (.tuple (road.map .str)), .v (.tuple (paper (customAt R.cus day) x (pairs road) (ratesOf R day road)))]) := by
  have c1 := along_r (lw := lw) n R hR day hd y hy (by decide) road h
  have c2 := like_paper (lw := lw) (n + 3) (customAt R.cus day) x y (pairs road) (ratesOf R day road)
  have hb : (paperb (customAt R.cus day) x y (pairs road) (ratesOf R day road)).all (·.2.2) = decide (x = y) := by
    by_cases e : x = y
    · rw [decide_eq_true e]
      exact (paperb_p _ _ _ _ _).2.2.2 e
    · rw [decide_eq_false e]
      refine paper_ne e (List.length_map _).symm fun z => ?_
      have := congrArg List.length z
      rw [show (ratesOf R day road).length = (pairs road).length from List.length_map _, pairs_len] at this
      have := h.len
      simp only [List.length_nil] at *
      omega
  rw [hb] at c2
  generalize R.enc = re at *
  generalize PyData.tuple (paper (customAt R.cus day) y (pairs road) (ratesOf R day road)) = py at *
  generalize PyData.tuple (paper (customAt R.cus day) x (pairs road) (ratesOf R day road)) = px at *
  rw [callS (fd := Lib.b_is_along) rfl]
  unfold Lib.b_is_along
  one_item
  rw [c1]
  one_item
  rw [c2]
  one_item
end
end Mp
end

/-! ## N5 -/
section
set_option linter.all false
set_option maxRecDepth 100000
namespace Mp
open PySem
local macro_rules | `(tactic| one_item) => `(tactic| simp (config := { decide := false }) only [↓bnd_p, bnd_s, bnd_n, runF_e, endF_nx, endF_rt, exs_c, exs_n, seqF_nx, seqF_rt, seqF_bk, seqF_ct, ex.eq_1, ex.eq_2, ex.eq_3, ex.eq_4, ex.eq_5, ex.eq_6, ex.eq_7, ex.eq_8, ex.eq_9, ex.eq_10, ex.eq_11, ex.eq_12, ex.eq_15, ex.eq_16, ex.eq_17, ex.eq_18, ev.eq_1, ev.eq_2, ev.eq_3, ev.eq_4, ev.eq_5, ev.eq_6, ev.eq_7, ev.eq_8, ev.eq_9, ev.eq_10, ev.eq_11, ev.eq_12, ev.eq_13, ev.eq_14, ev.eq_15, ev.eq_16, ev.eq_17, ev.eq_18, ev.eq_19, ev.eq_20, ev.eq_23, ev.eq_24, ev.eq_25, ev.eq_26, ev.eq_27, evs, evas, evac, evc, evo, evod, evit.eq_1, evit.eq_3, evit.eq_4, evit.eq_5, evit.eq_6, evit.eq_7, evOs, arB_cst, arC_cst, arB_bin, arC_bin, arB_neg, arC_neg, arB_not, arC_not, arB_cmp, arC_cmp, arB_chn, arC_chn, arB_and, arC_and, arB_or, arC_or, arB_ife, arC_ife, arB_tup, arC_tup, arB_lst, arC_lst, arB_dct, arC_dct, arB_idx, arC_idx, arB_slc, arC_slc, arB_stp, arC_stp, arB_cal, arC_cal, arB_blt, arC_blt, arB_mth, arC_mth, arB_isi, arC_isi, arB_lc, arC_lc, arB_dc, arC_dc, arB_pop, arC_pop, arB_app, arC_app, arB_ext, arC_ext, arB_upd, arC_upd, arB_fst, arC_fst, arB_n, arC_n, arN_s, rdA_v, rdA_s, rdAs, hand, ownSl, putB, nodO, isLst, selK, binO, cmpO, ownIx, outs, pairUp_n, pairUp_s, mrg_n, isOwn_v, isOwn_l, isOwn_d, isOO_v, isOO_l, isOO_d, isO_n, isO_b, isNn_n, isNn_i, isNn_b, isNn_s, isNn_t, isNn_l, notB, leO_i, geO_i, ltO_i, gtO_i, eqO, intsO_i, addO_i, addO_t, addO_l, mulO_i, bolO_b, intO_i, isiD, idxO_t, idxO_l, idxO_vl, dctO_d, dctO_v, seqD_l, seqD_t, seqD_vl, lstO_l, lstO_vl, tupO_t, blO, one_e, two_e, absO_i, intB_i, intB_b, onInts_l, onBools_l, min2_i, max2_i, len_t, len_l, len_vl, len_s, setO_l, ixSet_e, List.set_cons_zero, List.set_cons_succ, asgT_n, asgT_t, asgTs_n, asgTs_c, tgOk_n, tgOk_t, tgsOk_n, tgsOk_c, setOs, wipe, back, slcO_t, slcO_vl, slcO_l, itO_l, itO_vl, itO_t, frA, d_v, d_l, d_d, at_z, at_s, set_z, set_s, ixI_0, ixI_1, ixI_2, ixI_3, ixI_4, eqP_i, eqP_s, nc, List.length_cons, List.length_nil, List.map_cons, List.map_nil, List.cons_append, List.nil_append, List.append_nil, rep_s, rep_z, all_rep, Nat.reduceAdd, Nat.reduceSub, Nat.reduceEqDiff, List.getElem?_cons_zero, List.getElem?_cons_succ, ↓Option.bind_eq_bind, Option.bind_some, Option.bind_none, Option.map_some, Option.map_none, Option.pure_def, if_true, if_false, ite_true, ite_false, reduceIte, Bool.not_true, Bool.not_false, Bool.false_eq_true, List.any_cons, List.any_nil, List.contains_cons, List.contains_nil, Bool.or_false, Bool.false_or, Bool.or_self, Bool.and_true, Bool.true_and, Bool.and_self, Bool.and_false, Bool.false_and, Bool.or_true, Bool.true_or, List.nodup_nil, List.nodup_cons, List.mem_cons, List.not_mem_nil, or_false, or_self, not_false_eq_true, and_true, and_self, Nat.reduceEqDiff, Nat.succ_ne_zero, Nat.zero_ne_one, Nat.one_ne_zero, beq_self_eq_true, Nat.reduceBEq, Int.reduceMul, Int.reduceNeg, decide_true, decide_false, Int.reduceLT, Int.reduceLE, Int.reduceEq, Int.ofNat_eq_natCast])
local macro_rules | `(tactic| one_place) => `(tactic| simp (config := { decide := false }) only [↓bnd_p, bnd_s, bnd_n, runF_e, endF_nx, endF_rt, exs_c, exs_n, seqF_nx, seqF_rt, seqF_bk, seqF_ct, ex.eq_1, ex.eq_2, ex.eq_3, ex.eq_4, ex.eq_5, ex.eq_6, ex.eq_7, ex.eq_8, ex.eq_9, ex.eq_10, ex.eq_11, ex.eq_12, ex.eq_15, ex.eq_16, ex.eq_17, ex.eq_18, ev.eq_1, ev.eq_2, ev.eq_3, ev.eq_4, ev.eq_5, ev.eq_6, ev.eq_7, ev.eq_8, ev.eq_9, ev.eq_10, ev.eq_11, ev.eq_12, ev.eq_13, ev.eq_14, ev.eq_15, ev.eq_16, ev.eq_17, ev.eq_18, ev.eq_19, ev.eq_20, ev.eq_23, ev.eq_24, ev.eq_25, ev.eq_26, ev.eq_27, evs, evas, evac, evc, evo, evod, evit.eq_1, evit.eq_3, evit.eq_4, evit.eq_5, evit.eq_6, evit.eq_7, evOs, arB_cst, arC_cst, arB_bin, arC_bin, arB_neg, arC_neg, arB_not, arC_not, arB_cmp, arC_cmp, arB_chn, arC_chn, arB_and, arC_and, arB_or, arC_or, arB_ife, arC_ife, arB_tup, arC_tup, arB_lst, arC_lst, arB_dct, arC_dct, arB_idx, arC_idx, arB_slc, arC_slc, arB_stp, arC_stp, arB_cal, arC_cal, arB_blt, arC_blt, arB_mth, arC_mth, arB_isi, arC_isi, arB_lc, arC_lc, arB_dc, arC_dc, arB_pop, arC_pop, arB_app, arC_app, arB_ext, arC_ext, arB_upd, arC_upd, arB_fst, arC_fst, arB_n, arC_n, arN_s, rdA_v, rdA_s, rdAs, hand, ownSl, putB, nodO, isLst, selK, binO, cmpO, ownIx, outs, pairUp_n, pairUp_s, mrg_n, isOwn_v, isOwn_l, isOwn_d, isOO_v, isOO_l, isOO_d, isO_n, isO_b, isNn_n, isNn_i, isNn_b, isNn_s, isNn_t, isNn_l, notB, leO_i, geO_i, ltO_i, gtO_i, eqO, intsO_i, addO_i, addO_t, addO_l, mulO_i, bolO_b, intO_i, isiD, idxO_t, idxO_l, idxO_vl, dctO_d, dctO_v, seqD_l, seqD_t, seqD_vl, lstO_l, lstO_vl, tupO_t, blO, one_e, two_e, absO_i, intB_i, intB_b, onInts_l, onBools_l, min2_i, max2_i, len_t, len_l, len_vl, len_s, setO_l, ixSet_e, List.set_cons_zero, List.set_cons_succ, asgT_n, asgT_t, asgTs_n, asgTs_c, tgOk_n, tgOk_t, tgsOk_n, tgsOk_c, setOs, wipe, back, slcO_t, slcO_vl, slcO_l, itO_l, itO_vl, itO_t, frA, d_v, d_l, d_d, at_z, at_s, set_z, set_s, ixI_0, ixI_1, ixI_2, ixI_3, ixI_4, eqP_i, eqP_s, nc, List.length_cons, List.length_nil, List.map_cons, List.map_nil, List.cons_append, List.nil_append, List.append_nil, rep_s, rep_z, all_rep, Nat.reduceAdd, Nat.reduceSub, Nat.reduceEqDiff, List.getElem?_cons_zero, List.getElem?_cons_succ, ↓Option.bind_eq_bind, Option.bind_some, Option.bind_none, Option.map_some, Option.map_none, Option.pure_def, if_true, if_false, ite_true, ite_false, reduceIte, Bool.not_true, Bool.not_false, Bool.false_eq_true, List.any_cons, List.any_nil, List.contains_cons, List.contains_nil, Bool.or_false, Bool.false_or, Bool.or_self, Bool.and_true, Bool.true_and, Bool.and_self, Bool.and_false, Bool.false_and, Bool.or_true, Bool.true_or, List.nodup_nil, List.nodup_cons, List.mem_cons, List.not_mem_nil, or_false, or_self, not_false_eq_true, and_true, and_self, Nat.reduceEqDiff, Nat.succ_ne_zero, Nat.zero_ne_one, Nat.one_ne_zero, beq_self_eq_true, Nat.reduceBEq, Int.reduceMul, Int.reduceNeg, decide_true, decide_false, Int.reduceLT, Int.reduceLE, Int.reduceEq, Int.ofNat_eq_natCast, *])
section
variable {lw : List Fd} (n : Nat)
theorem under_f0 {p q : Int × Int} {a b : Nat} (p1 : Bd a p.1) (p2 : Bd a p.2) (q1 : Bd b q.1) (q2 : Bd b q.2) (hab : a + b < 1000000) : callD (FN lw) (n + 1) 44 [.v (fr p), .v (fr q)] = some (.v (.bool (decide (p.1 * q.2 < q.1 * p.2))), [.v (fr p), .v (fr q)]) := by
  have m1 := mulOk_of p1 q2 hab
  have m2 := mulOk_of q1 p2 (by omega)
  rw [callS (fd := Lib.b_l_under) rfl]
  unfold Lib.b_l_under fr
  one_place
theorem eqP_fr0 (p q : Int × Int) : eqP (fr p) (fr q) = some (decide (p.1 = q.1) && decide (p.2 = q.2)) := by
  have pl : ∀ p : Int × Int, Pl 1 (fr p) := fun p => .tup (.cons .int (.cons .int .nil))
  rw [eqP_of (pl p) (pl q) (by decide) (by decide)]
  show some ((p.1 == q.1) && ((p.2 == q.2) && true)) = _
  rw [Bool.and_true]
  rfl
theorem eqP_frs (p : Int × Int) : eqP (fr p) (fr p) = some true := by
  rw [eqP_fr0, decide_eq_true rfl, decide_eq_true rfl]
  rfl
theorem encP_all : ∀ qs : List (Str × Str), PyData.eqvAll (qs.map encP) (qs.map encP) = true
  | [] => rfl
  | q :: qs => by
    show (((q.1 == q.1) && ((q.2 == q.2) && true)) && PyData.eqvAll (qs.map encP) (qs.map encP)) = true
    rw [encP_all qs]
    simp
theorem eqP_pairs (qs : List (Str × Str)) : eqP (.list (qs.map encP)) (.list (qs.map encP)) = some true := by
  have pl : Pl 2 (.list (qs.map encP)) := .list fun x hx => by
    obtain ⟨q, _, rfl⟩ := List.mem_map.mp hx
    exact .tup (.cons .str (.cons .str .nil))
  rw [eqP_of pl pl (by decide) (by decide)]
  show some (PyData.eqvAll (qs.map encP) (qs.map encP)) = _
  rw [encP_all]
abbrev prB : List CS := [(.asg (.nm 12) (.cal 69 [(.tup [(.nm 5), (.cst (.int 1))]), (.cal 61 [(.nm 0), (.nm 1), (.nm 6), (.nm 7)] [] [])] [] [])), (.iff (.or (.cmp .ne (.nm 8) (.nm 5)) (.or (.cmp .ne (.nm 9) (.nm 12)) (.cmp .ne (.cal 67 [(.tup [(.nm 10), (.cst (.int 1))]), (.nm 11)] [] []) (.nm 9)))) [(.ret (some (.cst .none)))] []), (.iff (.or (.not (.cal 44 [(.tup [(.neg (.cst (.int 1))), (.cst (.int 1))]), (.nm 11)] [] [])) (.not (.cal 44 [(.nm 11), (.tup [(.cst (.int 1)), (.cst (.int 1))])] [] []))) [(.ret (some (.cst .none)))] []), (.asg (.nm 5) (.nm 10))]
abbrev prS (re : D) (day cash : Int) (td pd : D) (x : Int) (u6 u7 u8 u9 u10 u11 u12 : Option O) : En := [some (.v re), some (.v (.int day)), some (.v (.int cash)), some (.v td), some (.v pd), some (.v (.int x)), u6, u7, u8, u9, u10, u11, u12, none]
def rt (R : RulesT) (day : Int) (q : Str × Str) : Int × Int := (rateAt R day q.1 q.2).getD (1, 1)
theorem pr_turn (R : RulesT) (hR : RulesOk R) (day : Int) (hd : 0 ≤ day ∧ day ≤ 9999) (c : Str) (cash : Int) (td pd : D) (q : Str × Str) (h1 : q.1 ∈ codes R) (h2 : q.2 ∈ codes R) (h3 : (rateAt R day q.1 q.2).isSome) (x : Int) {k : Nat} (hx : Bd k x) (hk : k ≤ 1000) (u6 u7 u8 u9 u10 u11 u12 : Option O) :
    ∃ v6 v7 v8 v9 v10 v11 v12, forF (callD (FN lw) (n + 9)) [] (.tp [(.nm 6), (.nm 7), (.nm 8), (.nm 9), (.nm 10), (.nm 11)]) prB (row c x q (rt R day q)) (prS R.enc day cash td pd x u6 u7 u8 u9 u10 u11 u12) =
      some (.nx, prS R.enc day cash td pd (stpI c x (rt R day q)) v6 v7 v8 v9 v10 v11 v12) := by
  obtain ⟨p, hp⟩ := Option.isSome_iff_exists.mp h3
  have hrt : rt R day q = p := by
    unfold rt
    rw [hp]
    rfl
  rw [hrt]
  have ok : RtOk p := rateAt_ok hR hp
  have one : Bd 1 (1 : Int) := by unfold Bd; decide
  have neg1 : Bd 1 (-1 : Int) := by unfold Bd; decide
  have c1 := rate_r (lw := lw) (n + 2) R hR day hd q.1 q.2 h1 h2 hp
  have c2 := l_times_f (lw := lw) (n + 7) (p := (x, 1)) (q := p) (a := k + 1) (b := 17) Int.one_pos ok.p2 (hx.mono (by omega)) (one.mono (by omega)) ok.b1 ok.b2 (by omega)
  obtain ⟨r0, r1, r2⟩ := rest_bd (c := c) ok hx
  have c3 := l_plus_f (lw := lw) (n + 7) (p := (stpI c x p, 1)) (q := restI c (exI x p).1 (exI x p).2 1) (a := k + 17) (b := 18) Int.one_pos r0 (stpI_bd ok hx) (one.mono (by omega)) r1 r2 (by omega)
  have c4 := under_f0 (lw := lw) (n + 8) (p := (-1, 1)) (q := restI c (exI x p).1 (exI x p).2 1) neg1 one r1 r2 (by decide)
  have c5 := under_f0 (lw := lw) (n + 8) (p := restI c (exI x p).1 (exI x p).2 1) (q := (1, 1)) r1 r2 one one (by decide)
  obtain ⟨s1, s2⟩ := rest_small (c := c) (x := x) ok
  have tr := told_rest (c := c) (x := x) ok
  have ef := eqP_frs (exI x p)
  rw [tr] at c3
  rw [show red (x * p.1) (1 * p.2) = exI x p from rfl] at c2
  rw [decide_eq_true (show (-1 : Int) * (restI c (exI x p).1 (exI x p).2 1).2 < (restI c (exI x p).1 (exI x p).2 1).1 * 1 from s1)] at c4
  rw [decide_eq_true (show (restI c (exI x p).1 (exI x p).2 1).1 * 1 < (1 : Int) * (restI c (exI x p).1 (exI x p).2 1).2 from s2)] at c5
  unfold row
  generalize R.enc = re at *
  generalize hex : fr (exI x p) = fe at *
  generalize hre : fr (restI c (exI x p).1 (exI x p).2 1) = fs at *
  generalize hfp : fr p = fp at *
  unfold fr at c2 c3 c4 c5
  refine ⟨some (.v (.str q.1)), some (.v (.str q.2)), some (.v (.int x)), some (.v fe), some (.v (.int (stpI c x p))), some (.v fs), some (.v fe), ?_⟩
  unfold forF prB prS
  one_item
  rw [c1]
  one_item
  rw [c2]
  one_item
  rw [ef]
  one_item
  rw [c3]
  one_item
  rw [ef]
  one_item
  rw [c4]
  one_item
  rw [c5]
  one_item
theorem pr_loop (R : RulesT) (hR : RulesOk R) (day : Int) (hd : 0 ≤ day ∧ day ≤ 9999) (c : Str) (cash : Int) (td pd : D) : ∀ (qs : List (Str × Str)) (x : Int) (k : Nat) (u6 u7 u8 u9 u10 u11 u12 : Option O), (∀ q ∈ qs, q.1 ∈ codes R ∧ q.2 ∈ codes R ∧ (rateAt R day q.1 q.2).isSome) → Bd k x → k + 17 * qs.length ≤ 1000 →
    ∃ v6 v7 v8 v9 v10 v11 v12, forLoop (forF (callD (FN lw) (n + 9)) [] (.tp [(.nm 6), (.nm 7), (.nm 8), (.nm 9), (.nm 10), (.nm 11)]) prB) (paper c x qs (qs.map (rt R day))) (prS R.enc day cash td pd x u6 u7 u8 u9 u10 u11 u12) =
      some (.nx, prS R.enc day cash td pd (endI c x (qs.map (rt R day))) v6 v7 v8 v9 v10 v11 v12)
  | [], x, k, u6, u7, u8, u9, u10, u11, u12, _, _, _ => ⟨u6, u7, u8, u9, u10, u11, u12, by
    have : paper c x [] (([] : List (Str × Str)).map (rt R day)) = [] := by
      unfold paper
      rfl
    rw [this]
    rfl⟩
  | q :: qs, x, k, u6, u7, u8, u9, u10, u11, u12, hq, hx, hk => by
    rw [List.length_cons] at hk
    obtain ⟨h1, h2, h3⟩ := hq q List.mem_cons_self
    obtain ⟨p, hp⟩ := Option.isSome_iff_exists.mp h3
    have ok : RtOk (rt R day q) := by
      have hrt : rt R day q = p := by
        unfold rt
        rw [hp]
        rfl
      rw [hrt]
      exact rateAt_ok hR hp
    obtain ⟨w6, w7, w8, w9, w10, w11, w12, e1⟩ := pr_turn (lw := lw) n R hR day hd c cash td pd q h1 h2 h3 x hx (by omega) u6 u7 u8 u9 u10 u11 u12
    obtain ⟨v6, v7, v8, v9, v10, v11, v12, e2⟩ := pr_loop R hR day hd c cash td pd qs (stpI c x (rt R day q)) (k + 17) w6 w7 w8 w9 w10 w11 w12 (fun r hr => hq r (List.mem_cons_of_mem _ hr)) (stpI_bd ok hx) (by omega)
    refine ⟨v6, v7, v8, v9, v10, v11, v12, ?_⟩
    rw [List.map_cons, paper, forLoop, e1]
    exact e2
theorem row_cut (c : Str) (x : Int) (q : Str × Str) (p : Int × Int) : cutL [PyData.str q.1, .str q.2, .int x, fr (exI x p), .int (stpI c x p), fr (restI c (exI x p).1 (exI x p).2 1)] none (some 2) = [.str q.1, .str q.2] := rfl
theorem mem_pairs : ∀ (road : List Str) (q : Str × Str), q ∈ pairs road → q.1 ∈ road ∧ q.2 ∈ road
  | [], q, h => by cases h
  | [_], q, h => by cases h
  | a :: b :: r, q, h => by
    have h : q ∈ (a, b) :: pairs (b :: r) := h
    rcases List.mem_cons.mp h with rfl | h
    · exact ⟨List.mem_cons_self, List.mem_cons_of_mem _ List.mem_cons_self⟩
    · obtain ⟨h1, h2⟩ := mem_pairs (b :: r) q h
      exact ⟨List.mem_cons_of_mem _ h1, List.mem_cons_of_mem _ h2⟩
theorem paper_row {c : Str} : ∀ {qs : List (Str × Str)} {ps : List (Int × Int)} {x : Int} {d : D}, d ∈ paper c x qs ps → ∃ y q p, d = row c y q p
  | [], ps, x, d, h => by
    unfold paper at h
    cases h
  | q :: qs, [], x, d, h => by
    unfold paper at h
    cases h
  | q :: qs, p :: ps, x, d, h => by
    rw [paper] at h
    rcases List.mem_cons.mp h with rfl | h
    · exact ⟨x, q, p, rfl⟩
    · exact paper_row h
/-- the first two of each row -/
def hd2 : D → D
  | .tuple ds => .tuple (cutL ds none (some 2))
  | d => d
theorem paper_hd2 {c : Str} : ∀ {qs : List (Str × Str)} {ps : List (Int × Int)} {x : Int}, qs.length = ps.length → (paper c x qs ps).map hd2 = qs.map encP
  | [], ps, x, _ => by
    unfold paper
    rfl
  | q :: qs, [], x, h => by simp at h
  | q :: qs, p :: ps, x, h => by
    rw [paper, List.map_cons, List.map_cons, paper_hd2 (by simpa using h)]
    rfl
theorem paper_right_r (R : RulesT) (hR : RulesOk R) (day : Int) (hd : 0 ≤ day ∧ day ≤ 9999) (x : Int) (hx : Bd 100 x) (road : List Str) (h : RoadOk R day road) :
    callD (FN lw) (n + 10) 71 [.v R.enc, .v (.int day), .v (.int x), .v (.tuple (road.map .str))] = some (.v (.int (endI (customAt R.cus day) x (ratesOf R day road))), [.v R.enc, .v (.int day), .v (.int x), .v (.tuple (road.map .str))]) := by
  have one : Bd 100 (1 : Int) := by unfold Bd; decide
  have ln : (pairs road).length = (ratesOf R day road).length := (List.length_map _).symm
  have lp := pairs_len road
  have hl := h.len
  have c1 := along_r (lw := lw) (n + 1) R hR day hd x hx (by decide) road h
  have c2 := is_along_r (lw := lw) n R hR day hd x x (hx.mono (by decide)) road h
  have c3 := is_along_r (lw := lw) n R hR day hd x (x + 1) ((hx.add one).mono (by decide)) road h
  rw [decide_eq_true rfl] at c2
  rw [decide_eq_false (by omega)] at c3
  have hq : ∀ q ∈ pairs road, q.1 ∈ codes R ∧ q.2 ∈ codes R ∧ (rateAt R day q.1 q.2).isSome := fun q hq => by
    obtain ⟨m1, m2⟩ := mem_pairs road q hq
    exact ⟨h.mem _ m1, h.mem _ m2, (h.rat q hq).2⟩
  have hrt : ratesOf R day road = (pairs road).map (rt R day) := rfl
  have hz : zipD (road.map .str) ((road.map .str).drop 1) = (pairs road).map encP := zip_pairs road
  have hh := paper_hd2 (c := customAt R.cus day) (x := x) ln
  have hrow := fun d (hd : d ∈ paper (customAt R.cus day) x (pairs road) (ratesOf R day road)) => paper_row hd
  obtain ⟨v6, v7, v8, v9, v10, v11, v12, e1⟩ := pr_loop (lw := lw) n R hR day hd (customAt R.cus day) x (.tuple (road.map .str)) (.tuple (paper (customAt R.cus day) x (pairs road) (ratesOf R day road))) (pairs road) x 100 none none none none none none none hq hx (by omega)
  rw [← hrt] at e1
  have hpr := eqP_pairs (pairs road)
  generalize customAt R.cus day = c at *
  generalize hE : ratesOf R day road = ps at *
  generalize R.enc = re at *
  generalize hP : paper c x (pairs road) ps = pp at *
  obtain ⟨r', e2, ⟨u, rfl⟩⟩ := lc_filter (f := lcF (callD (FN lw) (n + 9)) [13] (.slc (.nm 13) none (some (.cst (.int 2)))) (.nm 13) []) (fun s => ∃ u, s = [some (.v re), some (.v (.int day)), some (.v (.int x)), some (.v (.tuple (road.map .str))), some (.v (.tuple pp)), some (.v (.int x)), none, none, none, none, none, none, none, u])
    (enc := fun d : D => d) (p := fun _ => true) (G := hd2) (xs := pp) (fun d hd s ⟨u, e⟩ => by
    subst e
    obtain ⟨y, q, p, rfl⟩ := hrow d hd
    refine ⟨[some (.v re), some (.v (.int day)), some (.v (.int x)), some (.v (.tuple (road.map .str))), some (.v (.tuple pp)), some (.v (.int x)), none, none, none, none, none, none, none, some (.v (row c y q p))], ?_, ⟨_, rfl⟩⟩
    unfold lcF row
    one_item
    rfl) [some (.v re), some (.v (.int day)), some (.v (.int x)), some (.v (.tuple (road.map .str))), some (.v (.tuple pp)), some (.v (.int x)), none, none, none, none, none, none, none, none] ⟨_, rfl⟩
  rw [List.filter_eq_self.mpr fun _ _ => rfl, hh, show pp.map (fun d : D => d) = pp from List.map_id _] at e2
  rw [callS (fd := Lib.b_l_paper_right) rfl]
  unfold Lib.b_l_paper_right
  one_item
  rw [c1]
  one_item
  rw [lc_run (xs := pp) (r1 := [some (.v re), some (.v (.int day)), some (.v (.int x)), some (.v (.tuple (road.map .str))), some (.v (.tuple pp)), some (.v (.int x)), none, none, none, none, none, none, none, none]) (by one_item) e2]
  one_item
  rw [cut_tail, hz, hpr]
  one_item
  rw [c2]
  one_item
  rw [for_run (xs := pp) (r1 := prS re day x (.tuple (road.map .str)) (.tuple pp) x none none none none none none none) (by one_item) (by one_item) e1]
  one_item
  rw [c3]
  one_item
end
end Mp
end

/-! ## N6 -/
section
set_option linter.all false
set_option maxRecDepth 100000
namespace Mp
open PySem
local macro_rules | `(tactic| one_item) => `(tactic| simp (config := { decide := false }) only [↓bnd_p, bnd_s, bnd_n, runF_e, endF_nx, endF_rt, exs_c, exs_n, seqF_nx, seqF_rt, seqF_bk, seqF_ct, ex.eq_1, ex.eq_2, ex.eq_3, ex.eq_4, ex.eq_5, ex.eq_6, ex.eq_7, ex.eq_8, ex.eq_9, ex.eq_10, ex.eq_11, ex.eq_12, ex.eq_15, ex.eq_16, ex.eq_17, ex.eq_18, ev.eq_1, ev.eq_2, ev.eq_3, ev.eq_4, ev.eq_5, ev.eq_6, ev.eq_7, ev.eq_8, ev.eq_9, ev.eq_10, ev.eq_11, ev.eq_12, ev.eq_13, ev.eq_14, ev.eq_15, ev.eq_16, ev.eq_17, ev.eq_18, ev.eq_19, ev.eq_20, ev.eq_23, ev.eq_24, ev.eq_25, ev.eq_26, ev.eq_27, evs, evas, evac, evc, evo, evod, evit.eq_1, evit.eq_3, evit.eq_4, evit.eq_5, evit.eq_6, evit.eq_7, evOs, arB_cst, arC_cst, arB_bin, arC_bin, arB_neg, arC_neg, arB_not, arC_not, arB_cmp, arC_cmp, arB_chn, arC_chn, arB_and, arC_and, arB_or, arC_or, arB_ife, arC_ife, arB_tup, arC_tup, arB_lst, arC_lst, arB_dct, arC_dct, arB_idx, arC_idx, arB_slc, arC_slc, arB_stp, arC_stp, arB_cal, arC_cal, arB_blt, arC_blt, arB_mth, arC_mth, arB_isi, arC_isi, arB_lc, arC_lc, arB_dc, arC_dc, arB_pop, arC_pop, arB_app, arC_app, arB_ext, arC_ext, arB_upd, arC_upd, arB_fst, arC_fst, arB_n, arC_n, arN_s, rdA_v, rdA_s, rdAs, hand, ownSl, putB, nodO, isLst, selK, binO, cmpO, ownIx, outs, pairUp_n, pairUp_s, mrg_n, isOwn_v, isOwn_l, isOwn_d, isOO_v, isOO_l, isOO_d, isO_n, isO_b, isNn_n, isNn_i, isNn_b, isNn_s, isNn_t, isNn_l, notB, leO_i, geO_i, ltO_i, gtO_i, eqO, intsO_i, addO_i, addO_t, addO_l, mulO_i, bolO_b, intO_i, isiD, idxO_t, idxO_l, idxO_vl, dctO_d, dctO_v, seqD_l, seqD_t, seqD_vl, lstO_l, lstO_vl, tupO_t, blO, one_e, two_e, absO_i, intB_i, intB_b, onInts_l, onBools_l, min2_i, max2_i, len_t, len_l, len_vl, len_s, setO_l, ixSet_e, List.set_cons_zero, List.set_cons_succ, asgT_n, asgT_t, asgTs_n, asgTs_c, tgOk_n, tgOk_t, tgsOk_n, tgsOk_c, setOs, wipe, back, slcO_t, slcO_vl, slcO_l, itO_l, itO_vl, itO_t, frA, d_v, d_l, d_d, at_z, at_s, set_z, set_s, ixI_0, ixI_1, ixI_2, ixI_3, ixI_4, eqP_i, eqP_s, nc, List.length_cons, List.length_nil, List.map_cons, List.map_nil, List.cons_append, List.nil_append, List.append_nil, rep_s, rep_z, all_rep, Nat.reduceAdd, Nat.reduceSub, Nat.reduceEqDiff, List.getElem?_cons_zero, List.getElem?_cons_succ, ↓Option.bind_eq_bind, Option.bind_some, Option.bind_none, Option.map_some, Option.map_none, Option.pure_def, if_true, if_false, ite_true, ite_false, reduceIte, Bool.not_true, Bool.not_false, Bool.false_eq_true, List.any_cons, List.any_nil, List.contains_cons, List.contains_nil, Bool.or_false, Bool.false_or, Bool.or_self, Bool.and_true, Bool.true_and, Bool.and_self, Bool.and_false, Bool.false_and, Bool.or_true, Bool.true_or, List.nodup_nil, List.nodup_cons, List.mem_cons, List.not_mem_nil, or_false, or_self, not_false_eq_true, and_true, and_self, Nat.reduceEqDiff, Nat.succ_ne_zero, Nat.zero_ne_one, Nat.one_ne_zero, beq_self_eq_true, Nat.reduceBEq, Int.reduceMul, Int.reduceNeg, decide_true, decide_false, Int.reduceLT, Int.reduceLE, Int.reduceEq, Int.ofNat_eq_natCast])
local macro_rules | `(tactic| one_place) => `(tactic| simp (config := { decide := false }) only [↓bnd_p, bnd_s, bnd_n, runF_e, endF_nx, endF_rt, exs_c, exs_n, seqF_nx, seqF_rt, seqF_bk, seqF_ct, ex.eq_1, ex.eq_2, ex.eq_3, ex.eq_4, ex.eq_5, ex.eq_6, ex.eq_7, ex.eq_8, ex.eq_9, ex.eq_10, ex.eq_11, ex.eq_12, ex.eq_15, ex.eq_16, ex.eq_17, ex.eq_18, ev.eq_1, ev.eq_2, ev.eq_3, ev.eq_4, ev.eq_5, ev.eq_6, ev.eq_7, ev.eq_8, ev.eq_9, ev.eq_10, ev.eq_11, ev.eq_12, ev.eq_13, ev.eq_14, ev.eq_15, ev.eq_16, ev.eq_17, ev.eq_18, ev.eq_19, ev.eq_20, ev.eq_23, ev.eq_24, ev.eq_25, ev.eq_26, ev.eq_27, evs, evas, evac, evc, evo, evod, evit.eq_1, evit.eq_3, evit.eq_4, evit.eq_5, evit.eq_6, evit.eq_7, evOs, arB_cst, arC_cst, arB_bin, arC_bin, arB_neg, arC_neg, arB_not, arC_not, arB_cmp, arC_cmp, arB_chn, arC_chn, arB_and, arC_and, arB_or, arC_or, arB_ife, arC_ife, arB_tup, arC_tup, arB_lst, arC_lst, arB_dct, arC_dct, arB_idx, arC_idx, arB_slc, arC_slc, arB_stp, arC_stp, arB_cal, arC_cal, arB_blt, arC_blt, arB_mth, arC_mth, arB_isi, arC_isi, arB_lc, arC_lc, arB_dc, arC_dc, arB_pop, arC_pop, arB_app, arC_app, arB_ext, arC_ext, arB_upd, arC_upd, arB_fst, arC_fst, arB_n, arC_n, arN_s, rdA_v, rdA_s, rdAs, hand, ownSl, putB, nodO, isLst, selK, binO, cmpO, ownIx, outs, pairUp_n, pairUp_s, mrg_n, isOwn_v, isOwn_l, isOwn_d, isOO_v, isOO_l, isOO_d, isO_n, isO_b, isNn_n, isNn_i, isNn_b, isNn_s, isNn_t, isNn_l, notB, leO_i, geO_i, ltO_i, gtO_i, eqO, intsO_i, addO_i, addO_t, addO_l, mulO_i, bolO_b, intO_i, isiD, idxO_t, idxO_l, idxO_vl, dctO_d, dctO_v, seqD_l, seqD_t, seqD_vl, lstO_l, lstO_vl, tupO_t, blO, one_e, two_e, absO_i, intB_i, intB_b, onInts_l, onBools_l, min2_i, max2_i, len_t, len_l, len_vl, len_s, setO_l, ixSet_e, List.set_cons_zero, List.set_cons_succ, asgT_n, asgT_t, asgTs_n, asgTs_c, tgOk_n, tgOk_t, tgsOk_n, tgsOk_c, setOs, wipe, back, slcO_t, slcO_vl, slcO_l, itO_l, itO_vl, itO_t, frA, d_v, d_l, d_d, at_z, at_s, set_z, set_s, ixI_0, ixI_1, ixI_2, ixI_3, ixI_4, eqP_i, eqP_s, nc, List.length_cons, List.length_nil, List.map_cons, List.map_nil, List.cons_append, List.nil_append, List.append_nil, rep_s, rep_z, all_rep, Nat.reduceAdd, Nat.reduceSub, Nat.reduceEqDiff, List.getElem?_cons_zero, List.getElem?_cons_succ, ↓Option.bind_eq_bind, Option.bind_some, Option.bind_none, Option.map_some, Option.map_none, Option.pure_def, if_true, if_false, ite_true, ite_false, reduceIte, Bool.not_true, Bool.not_false, Bool.false_eq_true, List.any_cons, List.any_nil, List.contains_cons, List.contains_nil, Bool.or_false, Bool.false_or, Bool.or_self, Bool.and_true, Bool.true_and, Bool.and_self, Bool.and_false, Bool.false_and, Bool.or_true, Bool.true_or, List.nodup_nil, List.nodup_cons, List.mem_cons, List.not_mem_nil, or_false, or_self, not_false_eq_true, and_true, and_self, Nat.reduceEqDiff, Nat.succ_ne_zero, Nat.zero_ne_one, Nat.one_ne_zero, beq_self_eq_true, Nat.reduceBEq, Int.reduceMul, Int.reduceNeg, decide_true, decide_false, Int.reduceLT, Int.reduceLE, Int.reduceEq, Int.ofNat_eq_natCast, *])
section
variable {lw : List Fd} (n : Nat)
/-- where a road begins and ends -/
structure Ends (road : List Str) (a z : Str) : Prop where
  hd : (road.map PyData.str).head? = some (.str a)
  lt : (road.map PyData.str).getLast? = some (.str z)
theorem ends_of {road : List Str} (h : road ≠ []) : ∃ a z, Ends road a z ∧ a ∈ road ∧ z ∈ road := by
  cases road with
  | nil => exact absurd rfl h
  | cons a r =>
    obtain ⟨z, hz⟩ : ∃ z, (a :: r).getLast? = some z := ⟨_, List.getLast?_eq_some_getLast (by simp)⟩
    exact ⟨a, z, ⟨rfl, by rw [List.getLast?_map, hz]; rfl⟩, List.mem_cons_self, List.mem_of_getLast? hz⟩
abbrev matB : List CS := [(.asg (.nm 5) (.cal 54 [(.nm 0), (.nm 1), (.nm 2), (.cst (.int 5))] [] [])), (.iff (.and (.cmp .gt (.blt .len [(.nm 5)]) (.cst (.int 1))) (.cmp .eq (.tup [(.idx (.nm 5) (.cst (.int 0))), (.idx (.nm 5) (.neg (.cst (.int 1))))]) (.tup [(.idx (.nm 3) (.cst (.int 0))), (.idx (.nm 3) (.neg (.cst (.int 1))))]))) [(.ret (some (.nm 5)))] [])]
abbrev matS (st : List D) (re : D) (day : Int) (td : D) (u4 u5 : Option O) : En := [some (.lst st), some (.v re), some (.v (.int day)), some (.v td), u4, u5, none]
theorem mat_turn (R : RulesT) (hR : RulesOk R) (day : Int) {st : List D} (h : StOk st) (xs : List D) {a z : Str} (h1 : xs.head? = some (.str a)) (h2 : xs.getLast? = some (.str z)) (d4 : D) (u4 u5 : Option O) :
    ∃ st' v5 fl, forF (callD (FN lw) (n + 4)) [0] (.nm 4) matB d4 (matS st R.enc day (.tuple xs) u4 u5) = some (fl, matS st' R.enc day (.tuple xs) (some (.v d4)) v5) ∧ StOk st' ∧ (fl = .nx ∨ ∃ other, fl = .rt (.v (.tuple (other.map .str))) ∧ RoadOk R day other ∧ Ends other a z) := by
  obtain ⟨trip, st', e1, ⟨ht, hl⟩, h'⟩ := way_r (lw := lw) n R hR day h
  obtain ⟨b, y, he, _, _⟩ := ends_of ht.ne
  obtain ⟨i1, i2⟩ := hd_ix h1
  have i3 := last_ix h2
  have i4 := last_get h2
  obtain ⟨j1, j2⟩ := hd_ix he.hd
  have j3 := last_ix he.lt
  have j4 := last_get he.lt
  generalize R.enc = re at *
  have hlen : ((trip.map PyData.str).length : Int) = trip.length := by rw [List.length_map]
  by_cases hn : 2 ≤ trip.length
  · by_cases hb : b = a ∧ y = z
    · refine ⟨st', none, .rt (.v (.tuple (trip.map .str))), ?_, h', .inr ⟨trip, rfl, ⟨⟨hn, hl⟩, ht.mem, ht.rat⟩, by rw [← hb.1, ← hb.2]; exact he⟩⟩
      unfold forF matB matS
      one_item
      rw [e1]
      one_item
      rw [decide_eq_true (show (1 : Int) < (trip.map PyData.str).length by rw [hlen]; omega)]
      one_item
      rw [j1]
      one_item
      rw [j2]
      one_item
      rw [j3]
      one_item
      rw [j4]
      one_item
      rw [i1]
      one_item
      rw [i2]
      one_item
      rw [i3]
      one_item
      rw [i4]
      one_item
      rw [eqP_ss, decide_eq_true hb.1, decide_eq_true hb.2]
      one_item
    · refine ⟨st', some (.v (.tuple (trip.map .str))), .nx, ?_, h', .inl rfl⟩
      unfold forF matB matS
      one_item
      rw [e1]
      one_item
      rw [decide_eq_true (show (1 : Int) < (trip.map PyData.str).length by rw [hlen]; omega)]
      one_item
      rw [j1]
      one_item
      rw [j2]
      one_item
      rw [j3]
      one_item
      rw [j4]
      one_item
      rw [i1]
      one_item
      rw [i2]
      one_item
      rw [i3]
      one_item
      rw [i4]
      one_item
      rw [eqP_ss, show (decide (b = a) && decide (y = z)) = false by
        rcases Decidable.not_and_iff_or_not.mp hb with q | q
        · rw [decide_eq_false q, Bool.false_and]
        · rw [decide_eq_false q, Bool.and_false]]
      one_item
  · refine ⟨st', some (.v (.tuple (trip.map .str))), .nx, ?_, h', .inl rfl⟩
    unfold forF matB matS
    one_item
    rw [e1]
    one_item
    rw [decide_eq_false (show ¬ (1 : Int) < (trip.map PyData.str).length by rw [hlen]; omega)]
    one_item
theorem mat_loop (R : RulesT) (hR : RulesOk R) (day : Int) (xs : List D) {a z : Str} (h1 : xs.head? = some (.str a)) (h2 : xs.getLast? = some (.str z)) : ∀ (ds : List D) {st : List D} (h : StOk st) (u4 u5 : Option O),
    ∃ st' v4 v5 fl, forLoop (forF (callD (FN lw) (n + 4)) [0] (.nm 4) matB) ds (matS st R.enc day (.tuple xs) u4 u5) = some (fl, matS st' R.enc day (.tuple xs) v4 v5) ∧ StOk st' ∧ (fl = .nx ∨ ∃ other, fl = .rt (.v (.tuple (other.map .str))) ∧ RoadOk R day other ∧ Ends other a z)
  | [], st, h, u4, u5 => ⟨st, u4, u5, .nx, rfl, h, .inl rfl⟩
  | d :: ds, st, h, u4, u5 => by
    obtain ⟨st1, v5, fl, e, h1', hf⟩ := mat_turn (lw := lw) n R hR day h xs h1 h2 d u4 u5
    rcases hf with rfl | ⟨other, rfl, ho, he⟩
    · obtain ⟨st', w4, w5, fl, e2, h2', hf⟩ := mat_loop R hR day xs h1 h2 ds h1' (some (.v d)) v5
      refine ⟨st', w4, w5, fl, ?_, h2', hf⟩
      rw [forLoop, e]
      exact e2
    · refine ⟨st1, some (.v d), v5, _, ?_, h1', .inr ⟨other, rfl, ho, he⟩⟩
      rw [forLoop, e]
theorem mate_r (R : RulesT) (hR : RulesOk R) (day : Int) {st : List D} (h : StOk st) (road : List Str) (hroad : RoadOk R day road) {a z : Str} (he : Ends road a z) :
    ∃ other st', callD (FN lw) (n + 5) 70 [.lst st, .v R.enc, .v (.int day), .v (.tuple (road.map .str))] = some (.v (.tuple (other.map .str)), [.lst st', .v R.enc, .v (.int day), .v (.tuple (road.map .str))]) ∧ RoadOk R day other ∧ Ends other a z ∧ StOk st' := by
  obtain ⟨st', v4, v5, fl, e, h', hf⟩ := mat_loop (lw := lw) n R hR day (road.map .str) he.hd he.lt (rngD 0 6) h none none
  obtain ⟨xs, e2, hxl, hx⟩ := near_r (lw := lw) (n + 1) R hR day a
  obtain ⟨i1, i2⟩ := hd_ix he.hd
  have i3 := last_ix he.lt
  have i4 := last_get he.lt
  have start : ∀ other : List Str, fl = .rt (.v (.tuple (other.map .str))) → callD (FN lw) (n + 5) 70 [.lst st, .v R.enc, .v (.int day), .v (.tuple (road.map .str))] = some (.v (.tuple (other.map .str)), [.lst st', .v R.enc, .v (.int day), .v (.tuple (road.map .str))]) := fun other hfl => by
    subst hfl
    generalize R.enc = re at *
    rw [callS (fd := Lib.b_l_mate) rfl]
    unfold Lib.b_l_mate
    one_item
    rw [for_run (evit_rng (i := 0) (j := 6) (r1 := matS st re day (.tuple (road.map .str)) none none) (r2 := matS st re day (.tuple (road.map .str)) none none) (by one_item) (by one_item) (by decide) (by decide)) (by one_item) e]
    one_item
  rcases hf with rfl | ⟨other, rfl, ho, heo⟩
  · have fin : ∀ (b : Bool), decide (z ∈ xs) = b → callD (FN lw) (n + 5) 70 [.lst st, .v R.enc, .v (.int day), .v (.tuple (road.map .str))] = some (.v (if b then .tuple [.str a, .str z] else .tuple (road.map .str)), [.lst st', .v R.enc, .v (.int day), .v (.tuple (road.map .str))]) := fun b hb => by
      generalize R.enc = re at *
      rw [callS (fd := Lib.b_l_mate) rfl]
      unfold Lib.b_l_mate
      one_item
      rw [for_run (evit_rng (i := 0) (j := 6) (r1 := matS st re day (.tuple (road.map .str)) none none) (r2 := matS st re day (.tuple (road.map .str)) none none) (by one_item) (by one_item) (by decide) (by decide)) (by one_item) e]
      one_item
      rw [i1]
      one_item
      rw [i2]
      one_item
      rw [i3]
      one_item
      rw [i4]
      one_item
      rw [i3]
      one_item
      rw [i4]
      one_item
      rw [i1]
      one_item
      rw [i2]
      one_item
      rw [e2]
      one_item
      rw [inO_ll, hb]
      cases b
      · one_item
      · one_item
    by_cases hz : z ∈ xs
    · obtain ⟨q1, q2, q3⟩ := hx z hz
      have ha : a ∈ codes R := by
        cases road with
        | nil => cases he.hd
        | cons b r =>
          have : b = a := by
            have := he.hd
            rw [List.map_cons, List.head?_cons] at this
            cases this
            rfl
          exact this ▸ hroad.mem b List.mem_cons_self
      refine ⟨[a, z], st', fin true (decide_eq_true hz), ⟨⟨Nat.le_refl 2, show 2 ≤ 6 by decide⟩, fun c hc => ?_, fun p hp => ?_⟩, ⟨rfl, rfl⟩, h'⟩
      · simp only [List.mem_cons, List.not_mem_nil, or_false] at hc
        rcases hc with rfl | rfl
        · exact ha
        · exact q1
      · have hp : p ∈ [(a, z)] := hp
        rw [List.mem_singleton.mp hp]
        exact ⟨q2, q3⟩
    · exact ⟨road, st', fin false (decide_eq_false hz), hroad, he, h'⟩
  · exact ⟨other, st', start other rfl, ho, heo, h'⟩
end
end Mp
end

/-! ## N7 -/
section
set_option linter.all false
set_option maxRecDepth 100000
namespace Mp
open PySem
local macro_rules | `(tactic| one_item) => `(tactic| simp (config := { decide := false }) only [↓bnd_p, bnd_s, bnd_n, runF_e, endF_nx, endF_rt, exs_c, exs_n, seqF_nx, seqF_rt, seqF_bk, seqF_ct, ex.eq_1, ex.eq_2, ex.eq_3, ex.eq_4, ex.eq_5, ex.eq_6, ex.eq_7, ex.eq_8, ex.eq_9, ex.eq_10, ex.eq_11, ex.eq_12, ex.eq_15, ex.eq_16, ex.eq_17, ex.eq_18, ev.eq_1, ev.eq_2, ev.eq_3, ev.eq_4, ev.eq_5, ev.eq_6, ev.eq_7, ev.eq_8, ev.eq_9, ev.eq_10, ev.eq_11, ev.eq_12, ev.eq_13, ev.eq_14, ev.eq_15, ev.eq_16, ev.eq_17, ev.eq_18, ev.eq_19, ev.eq_20, ev.eq_23, ev.eq_24, ev.eq_25, ev.eq_26, ev.eq_27, evs, evas, evac, evc, evo, evod, evit.eq_1, evit.eq_3, evit.eq_4, evit.eq_5, evit.eq_6, evit.eq_7, evOs, arB_cst, arC_cst, arB_bin, arC_bin, arB_neg, arC_neg, arB_not, arC_not, arB_cmp, arC_cmp, arB_chn, arC_chn, arB_and, arC_and, arB_or, arC_or, arB_ife, arC_ife, arB_tup, arC_tup, arB_lst, arC_lst, arB_dct, arC_dct, arB_idx, arC_idx, arB_slc, arC_slc, arB_stp, arC_stp, arB_cal, arC_cal, arB_blt, arC_blt, arB_mth, arC_mth, arB_isi, arC_isi, arB_lc, arC_lc, arB_dc, arC_dc, arB_pop, arC_pop, arB_app, arC_app, arB_ext, arC_ext, arB_upd, arC_upd, arB_fst, arC_fst, arB_n, arC_n, arN_s, rdA_v, rdA_s, rdAs, hand, ownSl, putB, nodO, isLst, selK, binO, cmpO, ownIx, outs, pairUp_n, pairUp_s, mrg_n, isOwn_v, isOwn_l, isOwn_d, isOO_v, isOO_l, isOO_d, isO_n, isO_b, isNn_n, isNn_i, isNn_b, isNn_s, isNn_t, isNn_l, notB, leO_i, geO_i, ltO_i, gtO_i, eqO, intsO_i, addO_i, addO_t, addO_l, mulO_i, bolO_b, intO_i, isiD, idxO_t, idxO_l, idxO_vl, dctO_d, dctO_v, seqD_l, seqD_t, seqD_vl, lstO_l, lstO_vl, tupO_t, blO, one_e, two_e, absO_i, intB_i, intB_b, onInts_l, onBools_l, min2_i, max2_i, len_t, len_l, len_vl, len_s, setO_l, ixSet_e, List.set_cons_zero, List.set_cons_succ, asgT_n, asgT_t, asgTs_n, asgTs_c, tgOk_n, tgOk_t, tgsOk_n, tgsOk_c, setOs, wipe, back, slcO_t, slcO_vl, slcO_l, itO_l, itO_vl, itO_t, frA, d_v, d_l, d_d, at_z, at_s, set_z, set_s, ixI_0, ixI_1, ixI_2, ixI_3, ixI_4, eqP_i, eqP_s, nc, List.length_cons, List.length_nil, List.map_cons, List.map_nil, List.cons_append, List.nil_append, List.append_nil, rep_s, rep_z, all_rep, Nat.reduceAdd, Nat.reduceSub, Nat.reduceEqDiff, List.getElem?_cons_zero, List.getElem?_cons_succ, ↓Option.bind_eq_bind, Option.bind_some, Option.bind_none, Option.map_some, Option.map_none, Option.pure_def, if_true, if_false, ite_true, ite_false, reduceIte, Bool.not_true, Bool.not_false, Bool.false_eq_true, List.any_cons, List.any_nil, List.contains_cons, List.contains_nil, Bool.or_false, Bool.false_or, Bool.or_self, Bool.and_true, Bool.true_and, Bool.and_self, Bool.and_false, Bool.false_and, Bool.or_true, Bool.true_or, List.nodup_nil, List.nodup_cons, List.mem_cons, List.not_mem_nil, or_false, or_self, not_false_eq_true, and_true, and_self, Nat.reduceEqDiff, Nat.succ_ne_zero, Nat.zero_ne_one, Nat.one_ne_zero, beq_self_eq_true, Nat.reduceBEq, Int.reduceMul, Int.reduceNeg, decide_true, decide_false, Int.reduceLT, Int.reduceLE, Int.reduceEq, Int.ofNat_eq_natCast])
local macro_rules | `(tactic| one_place) => `(tactic| simp (config := { decide := false }) only [↓bnd_p, bnd_s, bnd_n, runF_e, endF_nx, endF_rt, exs_c, exs_n, seqF_nx, seqF_rt, seqF_bk, seqF_ct, ex.eq_1, ex.eq_2, ex.eq_3, ex.eq_4, ex.eq_5, ex.eq_6, ex.eq_7, ex.eq_8, ex.eq_9, ex.eq_10, ex.eq_11, ex.eq_12, ex.eq_15, ex.eq_16, ex.eq_17, ex.eq_18, ev.eq_1, ev.eq_2, ev.eq_3, ev.eq_4, ev.eq_5, ev.eq_6, ev.eq_7, ev.eq_8, ev.eq_9, ev.eq_10, ev.eq_11, ev.eq_12, ev.eq_13, ev.eq_14, ev.eq_15, ev.eq_16, ev.eq_17, ev.eq_18, ev.eq_19, ev.eq_20, ev.eq_23, ev.eq_24, ev.eq_25, ev.eq_26, ev.eq_27, evs, evas, evac, evc, evo, evod, evit.eq_1, evit.eq_3, evit.eq_4, evit.eq_5, evit.eq_6, evit.eq_7, evOs, arB_cst, arC_cst, arB_bin, arC_bin, arB_neg, arC_neg, arB_not, arC_not, arB_cmp, arC_cmp, arB_chn, arC_chn, arB_and, arC_and, arB_or, arC_or, arB_ife, arC_ife, arB_tup, arC_tup, arB_lst, arC_lst, arB_dct, arC_dct, arB_idx, arC_idx, arB_slc, arC_slc, arB_stp, arC_stp, arB_cal, arC_cal, arB_blt, arC_blt, arB_mth, arC_mth, arB_isi, arC_isi, arB_lc, arC_lc, arB_dc, arC_dc, arB_pop, arC_pop, arB_app, arC_app, arB_ext, arC_ext, arB_upd, arC_upd, arB_fst, arC_fst, arB_n, arC_n, arN_s, rdA_v, rdA_s, rdAs, hand, ownSl, putB, nodO, isLst, selK, binO, cmpO, ownIx, outs, pairUp_n, pairUp_s, mrg_n, isOwn_v, isOwn_l, isOwn_d, isOO_v, isOO_l, isOO_d, isO_n, isO_b, isNn_n, isNn_i, isNn_b, isNn_s, isNn_t, isNn_l, notB, leO_i, geO_i, ltO_i, gtO_i, eqO, intsO_i, addO_i, addO_t, addO_l, mulO_i, bolO_b, intO_i, isiD, idxO_t, idxO_l, idxO_vl, dctO_d, dctO_v, seqD_l, seqD_t, seqD_vl, lstO_l, lstO_vl, tupO_t, blO, one_e, two_e, absO_i, intB_i, intB_b, onInts_l, onBools_l, min2_i, max2_i, len_t, len_l, len_vl, len_s, setO_l, ixSet_e, List.set_cons_zero, List.set_cons_succ, asgT_n, asgT_t, asgTs_n, asgTs_c, tgOk_n, tgOk_t, tgsOk_n, tgsOk_c, setOs, wipe, back, slcO_t, slcO_vl, slcO_l, itO_l, itO_vl, itO_t, frA, d_v, d_l, d_d, at_z, at_s, set_z, set_s, ixI_0, ixI_1, ixI_2, ixI_3, ixI_4, eqP_i, eqP_s, nc, List.length_cons, List.length_nil, List.map_cons, List.map_nil, List.cons_append, List.nil_append, List.append_nil, rep_s, rep_z, all_rep, Nat.reduceAdd, Nat.reduceSub, Nat.reduceEqDiff, List.getElem?_cons_zero, List.getElem?_cons_succ, ↓Option.bind_eq_bind, Option.bind_some, Option.bind_none, Option.map_some, Option.map_none, Option.pure_def, if_true, if_false, ite_true, ite_false, reduceIte, Bool.not_true, Bool.not_false, Bool.false_eq_true, List.any_cons, List.any_nil, List.contains_cons, List.contains_nil, Bool.or_false, Bool.false_or, Bool.or_self, Bool.and_true, Bool.true_and, Bool.and_self, Bool.and_false, Bool.false_and, Bool.or_true, Bool.true_or, List.nodup_nil, List.nodup_cons, List.mem_cons, List.not_mem_nil, or_false, or_self, not_false_eq_true, and_true, and_self, Nat.reduceEqDiff, Nat.succ_ne_zero, Nat.zero_ne_one, Nat.one_ne_zero, beq_self_eq_true, Nat.reduceBEq, Int.reduceMul, Int.reduceNeg, decide_true, decide_false, Int.reduceLT, Int.reduceLE, Int.reduceEq, Int.ofNat_eq_natCast, *])
theorem lt_irr (a : Str) : ¬ a.cps.toList < a.cps.toList := fun h => List.lt_irrefl _ h
theorem rate_back {R : RulesT} (hR : RulesOk R) {day : Int} {a b : Str} {p : Int × Int} (hab : a ≠ b) (h : rateAt R day a b = some p) : ∃ q, rateAt R day b a = some q ∧ val p * val q = 1 := by
  unfold rateAt at h ⊢
  rw [if_neg hab] at h
  rw [if_neg (Ne.symm hab)]
  cases hl : (rows R day a b).getLast? with
  | none =>
    rw [hl] at h
    cases h
  | some r =>
    rw [hl] at h
    obtain ⟨hm, hc⟩ := List.mem_filter.mp (List.mem_of_getLast? hl)
    have ok := hR.rat r hm
    simp only [Bool.and_eq_true, decide_eq_true_eq] at hc
    obtain ⟨⟨h1, h2⟩, _⟩ := hc
    have hlt : r.1.cps.toList < r.2.1.cps.toList := ok.lt
    have key : (r.1 = a ∧ r.2.1 = b ∧ minS b a = a ∧ maxS b a = b) ∨ (r.1 = b ∧ r.2.1 = a ∧ minS b a = b ∧ maxS b a = a) := by
      unfold minS at h1 ⊢
      unfold maxS at h2 ⊢
      by_cases c1 : b.cps.toList < a.cps.toList
      · rw [if_pos c1] at h1
        by_cases c2 : a.cps.toList < b.cps.toList
        · rw [if_pos c2] at h2
          rw [h1, h2] at hlt
          exact absurd hlt (lt_irr _)
        · rw [if_neg c2] at h2
          exact .inr ⟨h1, h2, if_neg c2, if_pos c1⟩
      · rw [if_neg c1] at h1
        by_cases c2 : a.cps.toList < b.cps.toList
        · rw [if_pos c2] at h2
          exact .inl ⟨h1, h2, if_pos c2, if_neg c1⟩
        · rw [if_neg c2] at h2
          rw [h1, h2] at hlt
          exact absurd hlt (lt_irr _)
    have hrows : rows R day b a = rows R day a b := by
      unfold rows
      congr 1
      funext s
      rcases key with ⟨k1, k2, k3, k4⟩ | ⟨k1, k2, k3, k4⟩
      · rw [k3, k4, ← h1, ← h2, k1, k2]
      · rw [k3, k4, ← h1, ← h2, k1, k2]
    rw [hrows, hl]
    refine ⟨_, rfl, ?_⟩
    have t0 : 0 < r.2.2.2.1 := by have := ok.top; omega
    have b0 : 0 < r.2.2.2.2 := by have := ok.bot; omega
    have v1 := red_val (t := r.2.2.2.1) b0
    have v2 := red_val (t := r.2.2.2.2) t0
    have n1 := cast_ne t0
    have n2 := cast_ne b0
    have hp : (if a = r.1 then red r.2.2.2.1 r.2.2.2.2 else red r.2.2.2.2 r.2.2.2.1) = p := Option.some.inj h
    rw [← hp]
    rcases key with ⟨k1, k2, _, _⟩ | ⟨k1, k2, _, _⟩
    · rw [if_pos k1.symm, if_neg (by rw [k1]; exact Ne.symm hab), v1, v2]
      grind
    · rw [if_neg (by rw [k1]; exact hab), if_pos k1.symm, v1, v2]
      grind
/-- there and back -/
def thereBack (road : List Str) : List Str := road ++ road.reverse.drop 1
theorem back_road {R : RulesT} (hR : RulesOk R) {day : Int} {road : List Str} (h : RoadOk R day road) (h3 : road.length ≤ 3) : RoadOk R day (thereBack road) ∧ ∀ x : Int, worthL (x, 1) (ratesOf R day (thereBack road)) = (x, 1) := by
  have hl := h.len
  have back : ∀ a b : Str, (a, b) ∈ pairs road → ∃ p q, rateAt R day a b = some p ∧ rateAt R day b a = some q ∧ val p * val q = 1 := fun a b hm => by
    obtain ⟨n1, s1⟩ := h.rat _ hm
    obtain ⟨p, hp⟩ := Option.isSome_iff_exists.mp s1
    obtain ⟨q, hq, e⟩ := rate_back hR n1 hp
    exact ⟨p, q, hp, hq, e⟩
  have fin : RoadOk R day (thereBack road) → valL (ratesOf R day (thereBack road)) = 1 → ratesOf R day (thereBack road) ≠ [] → RoadOk R day (thereBack road) ∧ ∀ x : Int, worthL (x, 1) (ratesOf R day (thereBack road)) = (x, 1) := fun hr hv hne => by
    refine ⟨hr, fun x => ?_⟩
    have hps := ratesOf_ok hR hr
    obtain ⟨w1, w2⟩ := worth_val (q := (x, 1)) hps Int.one_pos
    refine rd_inj (worth_rd hps Int.one_pos (.inl hne)) (rd_int x) ?_
    rw [w2, hv]
    grind
  match road, hl, h3, h, back, fin with
  | [a, b], _, _, h, back, fin =>
    obtain ⟨p, q, e1, e2, e⟩ := back a b List.mem_cons_self
    have hab := (h.rat (a, b) List.mem_cons_self).1
    refine fin ⟨⟨show 2 ≤ 3 by decide, show 3 ≤ 6 by decide⟩, fun c hc => h.mem c ?_, fun r hr => ?_⟩ ?_ (fun z => nomatch z)
    · have hc : c ∈ [a, b, a] := hc
      simp only [List.mem_cons, List.not_mem_nil, or_false] at hc ⊢
      rcases hc with rfl | rfl | rfl <;> simp
    · have hr : r ∈ [(a, b), (b, a)] := hr
      simp only [List.mem_cons, List.not_mem_nil, or_false] at hr
      rcases hr with rfl | rfl
      · exact ⟨hab, by rw [e1]; rfl⟩
      · exact ⟨Ne.symm hab, by rw [e2]; rfl⟩
    · show val ((rateAt R day a b).getD (1, 1)) * (val ((rateAt R day b a).getD (1, 1)) * 1) = 1
      rw [e1, e2]
      show val p * (val q * 1) = 1
      grind
  | [a, b, c], _, _, h, back, fin =>
    obtain ⟨p, q, e1, e2, e⟩ := back a b List.mem_cons_self
    obtain ⟨p', q', e1', e2', e'⟩ := back b c (List.mem_cons_of_mem _ List.mem_cons_self)
    have hab := (h.rat (a, b) List.mem_cons_self).1
    have hbc := (h.rat (b, c) (List.mem_cons_of_mem _ List.mem_cons_self)).1
    refine fin ⟨⟨show 2 ≤ 5 by decide, show 5 ≤ 6 by decide⟩, fun d hd => h.mem d ?_, fun r hr => ?_⟩ ?_ (fun z => nomatch z)
    · have hd : d ∈ [a, b, c, b, a] := hd
      simp only [List.mem_cons, List.not_mem_nil, or_false] at hd ⊢
      rcases hd with rfl | rfl | rfl | rfl | rfl <;> simp
    · have hr : r ∈ [(a, b), (b, c), (c, b), (b, a)] := hr
      simp only [List.mem_cons, List.not_mem_nil, or_false] at hr
      rcases hr with rfl | rfl | rfl | rfl
      · exact ⟨hab, by rw [e1]; rfl⟩
      · exact ⟨hbc, by rw [e1']; rfl⟩
      · exact ⟨Ne.symm hbc, by rw [e2']; rfl⟩
      · exact ⟨Ne.symm hab, by rw [e2]; rfl⟩
    · show val ((rateAt R day a b).getD (1, 1)) * (val ((rateAt R day b c).getD (1, 1)) * (val ((rateAt R day c b).getD (1, 1)) * (val ((rateAt R day b a).getD (1, 1)) * 1))) = 1
      rw [e1, e2, e1', e2']
      show val p * (val p' * (val q' * (val q * 1))) = 1
      grind
end Mp
end

/-! ## N8 -/
section
set_option linter.all false
set_option maxRecDepth 100000
namespace Mp
open PySem
local macro_rules | `(tactic| one_item) => `(tactic| simp (config := { decide := false }) only [↓bnd_p, bnd_s, bnd_n, runF_e, endF_nx, endF_rt, exs_c, exs_n, seqF_nx, seqF_rt, seqF_bk, seqF_ct, ex.eq_1, ex.eq_2, ex.eq_3, ex.eq_4, ex.eq_5, ex.eq_6, ex.eq_7, ex.eq_8, ex.eq_9, ex.eq_10, ex.eq_11, ex.eq_12, ex.eq_15, ex.eq_16, ex.eq_17, ex.eq_18, ev.eq_1, ev.eq_2, ev.eq_3, ev.eq_4, ev.eq_5, ev.eq_6, ev.eq_7, ev.eq_8, ev.eq_9, ev.eq_10, ev.eq_11, ev.eq_12, ev.eq_13, ev.eq_14, ev.eq_15, ev.eq_16, ev.eq_17, ev.eq_18, ev.eq_19, ev.eq_20, ev.eq_23, ev.eq_24, ev.eq_25, ev.eq_26, ev.eq_27, evs, evas, evac, evc, evo, evod, evit.eq_1, evit.eq_3, evit.eq_4, evit.eq_5, evit.eq_6, evit.eq_7, evOs, arB_cst, arC_cst, arB_bin, arC_bin, arB_neg, arC_neg, arB_not, arC_not, arB_cmp, arC_cmp, arB_chn, arC_chn, arB_and, arC_and, arB_or, arC_or, arB_ife, arC_ife, arB_tup, arC_tup, arB_lst, arC_lst, arB_dct, arC_dct, arB_idx, arC_idx, arB_slc, arC_slc, arB_stp, arC_stp, arB_cal, arC_cal, arB_blt, arC_blt, arB_mth, arC_mth, arB_isi, arC_isi, arB_lc, arC_lc, arB_dc, arC_dc, arB_pop, arC_pop, arB_app, arC_app, arB_ext, arC_ext, arB_upd, arC_upd, arB_fst, arC_fst, arB_n, arC_n, arN_s, rdA_v, rdA_s, rdAs, hand, ownSl, putB, nodO, isLst, selK, binO, cmpO, ownIx, outs, pairUp_n, pairUp_s, mrg_n, isOwn_v, isOwn_l, isOwn_d, isOO_v, isOO_l, isOO_d, isO_n, isO_b, isNn_n, isNn_i, isNn_b, isNn_s, isNn_t, isNn_l, notB, leO_i, geO_i, ltO_i, gtO_i, eqO, intsO_i, addO_i, addO_t, addO_l, mulO_i, bolO_b, intO_i, isiD, idxO_t, idxO_l, idxO_vl, dctO_d, dctO_v, seqD_l, seqD_t, seqD_vl, lstO_l, lstO_vl, tupO_t, blO, one_e, two_e, absO_i, intB_i, intB_b, onInts_l, onBools_l, min2_i, max2_i, len_t, len_l, len_vl, len_s, setO_l, ixSet_e, List.set_cons_zero, List.set_cons_succ, asgT_n, asgT_t, asgTs_n, asgTs_c, tgOk_n, tgOk_t, tgsOk_n, tgsOk_c, setOs, wipe, back, slcO_t, slcO_vl, slcO_l, itO_l, itO_vl, itO_t, frA, d_v, d_l, d_d, at_z, at_s, set_z, set_s, ixI_0, ixI_1, ixI_2, ixI_3, ixI_4, eqP_i, eqP_s, nc, List.length_cons, List.length_nil, List.map_cons, List.map_nil, List.cons_append, List.nil_append, List.append_nil, rep_s, rep_z, all_rep, Nat.reduceAdd, Nat.reduceSub, Nat.reduceEqDiff, List.getElem?_cons_zero, List.getElem?_cons_succ, ↓Option.bind_eq_bind, Option.bind_some, Option.bind_none, Option.map_some, Option.map_none, Option.pure_def, if_true, if_false, ite_true, ite_false, reduceIte, Bool.not_true, Bool.not_false, Bool.false_eq_true, List.any_cons, List.any_nil, List.contains_cons, List.contains_nil, Bool.or_false, Bool.false_or, Bool.or_self, Bool.and_true, Bool.true_and, Bool.and_self, Bool.and_false, Bool.false_and, Bool.or_true, Bool.true_or, List.nodup_nil, List.nodup_cons, List.mem_cons, List.not_mem_nil, or_false, or_self, not_false_eq_true, and_true, and_self, Nat.reduceEqDiff, Nat.succ_ne_zero, Nat.zero_ne_one, Nat.one_ne_zero, beq_self_eq_true, Nat.reduceBEq, Int.reduceMul, Int.reduceNeg, decide_true, decide_false, Int.reduceLT, Int.reduceLE, Int.reduceEq, Int.ofNat_eq_natCast])
local macro_rules | `(tactic| one_place) => `(tactic| simp (config := { decide := false }) only [↓bnd_p, bnd_s, bnd_n, runF_e, endF_nx, endF_rt, exs_c, exs_n, seqF_nx, seqF_rt, seqF_bk, seqF_ct, ex.eq_1, ex.eq_2, ex.eq_3, ex.eq_4, ex.eq_5, ex.eq_6, ex.eq_7, ex.eq_8, ex.eq_9, ex.eq_10, ex.eq_11, ex.eq_12, ex.eq_15, ex.eq_16, ex.eq_17, ex.eq_18, ev.eq_1, ev.eq_2, ev.eq_3, ev.eq_4, ev.eq_5, ev.eq_6, ev.eq_7, ev.eq_8, ev.eq_9, ev.eq_10, ev.eq_11, ev.eq_12, ev.eq_13, ev.eq_14, ev.eq_15, ev.eq_16, ev.eq_17, ev.eq_18, ev.eq_19, ev.eq_20, ev.eq_23, ev.eq_24, ev.eq_25, ev.eq_26, ev.eq_27, evs, evas, evac, evc, evo, evod, evit.eq_1, evit.eq_3, evit.eq_4, evit.eq_5, evit.eq_6, evit.eq_7, evOs, arB_cst, arC_cst, arB_bin, arC_bin, arB_neg, arC_neg, arB_not, arC_not, arB_cmp, arC_cmp, arB_chn, arC_chn, arB_and, arC_and, arB_or, arC_or, arB_ife, arC_ife, arB_tup, arC_tup, arB_lst, arC_lst, arB_dct, arC_dct, arB_idx, arC_idx, arB_slc, arC_slc, arB_stp, arC_stp, arB_cal, arC_cal, arB_blt, arC_blt, arB_mth, arC_mth, arB_isi, arC_isi, arB_lc, arC_lc, arB_dc, arC_dc, arB_pop, arC_pop, arB_app, arC_app, arB_ext, arC_ext, arB_upd, arC_upd, arB_fst, arC_fst, arB_n, arC_n, arN_s, rdA_v, rdA_s, rdAs, hand, ownSl, putB, nodO, isLst, selK, binO, cmpO, ownIx, outs, pairUp_n, pairUp_s, mrg_n, isOwn_v, isOwn_l, isOwn_d, isOO_v, isOO_l, isOO_d, isO_n, isO_b, isNn_n, isNn_i, isNn_b, isNn_s, isNn_t, isNn_l, notB, leO_i, geO_i, ltO_i, gtO_i, eqO, intsO_i, addO_i, addO_t, addO_l, mulO_i, bolO_b, intO_i, isiD, idxO_t, idxO_l, idxO_vl, dctO_d, dctO_v, seqD_l, seqD_t, seqD_vl, lstO_l, lstO_vl, tupO_t, blO, one_e, two_e, absO_i, intB_i, intB_b, onInts_l, onBools_l, min2_i, max2_i, len_t, len_l, len_vl, len_s, setO_l, ixSet_e, List.set_cons_zero, List.set_cons_succ, asgT_n, asgT_t, asgTs_n, asgTs_c, tgOk_n, tgOk_t, tgsOk_n, tgsOk_c, setOs, wipe, back, slcO_t, slcO_vl, slcO_l, itO_l, itO_vl, itO_t, frA, d_v, d_l, d_d, at_z, at_s, set_z, set_s, ixI_0, ixI_1, ixI_2, ixI_3, ixI_4, eqP_i, eqP_s, nc, List.length_cons, List.length_nil, List.map_cons, List.map_nil, List.cons_append, List.nil_append, List.append_nil, rep_s, rep_z, all_rep, Nat.reduceAdd, Nat.reduceSub, Nat.reduceEqDiff, List.getElem?_cons_zero, List.getElem?_cons_succ, ↓Option.bind_eq_bind, Option.bind_some, Option.bind_none, Option.map_some, Option.map_none, Option.pure_def, if_true, if_false, ite_true, ite_false, reduceIte, Bool.not_true, Bool.not_false, Bool.false_eq_true, List.any_cons, List.any_nil, List.contains_cons, List.contains_nil, Bool.or_false, Bool.false_or, Bool.or_self, Bool.and_true, Bool.true_and, Bool.and_self, Bool.and_false, Bool.false_and, Bool.or_true, Bool.true_or, List.nodup_nil, List.nodup_cons, List.mem_cons, List.not_mem_nil, or_false, or_self, not_false_eq_true, and_true, and_self, Nat.reduceEqDiff, Nat.succ_ne_zero, Nat.zero_ne_one, Nat.one_ne_zero, beq_self_eq_true, Nat.reduceBEq, Int.reduceMul, Int.reduceNeg, decide_true, decide_false, Int.reduceLT, Int.reduceLE, Int.reduceEq, Int.ofNat_eq_natCast, *])
section
variable {lw : List Fd} (n : Nat)
theorem eqP_t3 (a b c : Int × Int) : eqP (.tuple [fr a, fr b, fr c]) (.tuple [fr a, fr b, fr c]) = some true := by
  have p1 : ∀ p : Int × Int, Pl 1 (fr p) := fun p => .tup (.cons .int (.cons .int .nil))
  have pl : Pl 2 (.tuple [fr a, fr b, fr c]) := .tup (.cons (p1 a) (.cons (p1 b) (.cons (p1 c) .nil)))
  rw [eqP_of pl pl (by decide) (by decide)]
  show some (((a.1 == a.1) && ((a.2 == a.2) && true)) && (((b.1 == b.1) && ((b.2 == b.2) && true)) && (((c.1 == c.1) && ((c.2 == c.2) && true)) && true))) = _
  simp
theorem lens5 {R : RulesT} {day : Int} {road : List Str} (h : RoadOk R day road) : (ratesOf R day road).length ≤ 5 := by
  have : (ratesOf R day road).length = (pairs road).length := List.length_map _
  have := pairs_len road
  have := h.len
  omega
theorem right_84 (R : RulesT) (hR : RulesOk R) (day : Int) (hd : 0 ≤ day ∧ day ≤ 9999) {st : List D} (hst : StOk st) (x : Int) (hx : Bd 100 x) (road : List Str) (h : RoadOk R day road) :
    ∃ st', callD (FN lw) (n + 11) 72 [.lst st, .v R.enc, .v (.int day), .v (.int x), .v (.tuple (road.map .str))] = some (.v (.bool true), [.lst st', .v R.enc, .v (.int day), .v (.int x), .v (.tuple (road.map .str))]) ∧ StOk st' := by
  have one : Bd 1 (1 : Int) := by unfold Bd; decide
  have zero : Bd 1 (0 : Int) := by unfold Bd; decide
  obtain ⟨a, z, he, _, _⟩ := ends_of (road := road) (fun q => by
    have := h.len
    rw [q] at this
    simp only [List.length_nil] at this
    omega)
  obtain ⟨other, st', e1, ho, heo, hst'⟩ := mate_r (lw := lw) (n + 5) R hR day hst road h he
  have c1 := paper_right_r (lw := lw) n R hR day hd x hx road h
  have c2 := paper_right_r (lw := lw) n R hR day hd x hx other ho
  have c3 := between_r (lw := lw) (n + 2) R hR day hd x hx road other h ho he.hd he.lt heo.hd heo.lt
  have c4 := between_r (lw := lw) (n + 2) R hR day hd x hx other road ho h heo.hd heo.lt he.hd he.lt
  have c5 := between_r (lw := lw) (n + 2) R hR day hd x hx road road h h he.hd he.lt he.hd he.lt
  have c6 := worth_r (lw := lw) (n + 2) R hR day hd x hx (by decide) road h
  have c7 := worth_r (lw := lw) (n + 2) R hR day hd x hx (by decide) other ho
  have p1 := ratesOf_ok hR h
  have p2 := ratesOf_ok hR ho
  have l1 := lens5 h
  have l2 := lens5 ho
  have back : road.length ≤ 3 → callD (FN lw) (n + 10) 39 [.v R.enc, .v (.int day), .v (.int x), .v (.tuple ((thereBack road).map .str))] = some (.v (fr (x, 1)), [.v R.enc, .v (.int day), .v (.int x), .v (.tuple ((thereBack road).map .str))]) := fun h3 => by
    obtain ⟨hb, hw⟩ := back_road hR h h3
    have := worth_r (lw := lw) (n + 2) R hR day hd x hx (by decide) (thereBack road) hb
    rw [hw x] at this
    exact this
  generalize hc : customAt R.cus day = c at *
  generalize hE1 : ratesOf R day road = ps at *
  generalize hE2 : ratesOf R day other = qs at *
  obtain ⟨wp0, wp1, wp2⟩ := worthL_bd0 (q := (x, 1)) (k := 100) p1 Int.one_pos hx (one.mono (by decide))
  obtain ⟨wq0, wq1, wq2⟩ := worthL_bd0 (q := (x, 1)) (k := 100) p2 Int.one_pos hx (one.mono (by decide))
  obtain ⟨rp0, rp1, rp2⟩ := rnd_bd (c := c) (f := (0, 1)) p1 l1 hx Int.one_pos zero one
  obtain ⟨rq0, rq1, rq2⟩ := rnd_bd (c := c) (f := (0, 1)) p2 l2 hx Int.one_pos zero one
  have ea := ends_apart (c := c) (x := x) p1 p2
  have sw := sub_neg wp0 wq0
  have sr := sub_neg rp0 rq0
  have zw := sub_self wp0
  have zr := sub_self rp0
  have sb : ∀ {p q : Int × Int} {k l : Nat}, 0 < p.2 → 0 < q.2 → Bd k p.1 → Bd k p.2 → Bd k q.1 → Bd k q.2 → k ≤ l → 0 < (subF p q).2 ∧ Bd (2 * l + 1) (subF p q).1 ∧ Bd (2 * l + 1) (subF p q).2 := fun {p q k l} hp hq b1 b2 b3 b4 hkl => by
    have pos := Int.mul_pos hp hq
    obtain ⟨r1, r2⟩ := red_bd pos ((b1.mul b4).sub (b3.mul b2)) (b2.mul b4)
    exact ⟨red_pos pos, r1.mono (by omega), r2.mono (by omega)⟩
  obtain ⟨x0, x1, x2⟩ := sb (l := 700) wp0 wq0 (wp1.mono (by omega : _ ≤ 700)) (wp2.mono (by omega : _ ≤ 700)) (wq1.mono (by omega)) (wq2.mono (by omega)) (Nat.le_refl _)
  obtain ⟨y0, y1, y2⟩ := sb (l := 700) rp0 rq0 (rp1.mono (by omega : _ ≤ 700)) (rp2.mono (by omega : _ ≤ 700)) (rq1.mono (by omega)) (rq2.mono (by omega)) (Nat.le_refl _)
  have k1 := l_less_f (lw := lw) (n + 8) x0 y0 x1 x2 y1 y2 (by decide)
  have k2 := l_less_f (lw := lw) (n + 8) wp0 wq0 (wp1.mono (by omega : _ ≤ 700)) (wp2.mono (by omega : _ ≤ 700)) (wq1.mono (by omega : _ ≤ 700)) (wq2.mono (by omega : _ ≤ 700)) (by decide)
  change callD (FN lw) (n + 10) 68 _ = some (.v (fr (subF _ _)), _) at k1 k2
  rw [← ea] at k1
  rw [sw, sr] at c4
  rw [zw, zr, Int.sub_self] at c5
  have hneg : endI c x qs - endI c x ps = 0 - (endI c x ps - endI c x qs) := by omega
  rw [hneg] at c4
  generalize endI c x ps = m at *
  generalize endI c x qs = i at *
  generalize subF (worthL (x, 1) ps) (worthL (x, 1) qs) = ex at *
  generalize subF (rndL c x ps (0, 1)) (rndL c x qs (0, 1)) = aw at *
  generalize R.enc = re at *
  generalize htd : PyData.tuple (road.map PyData.str) = td at *
  generalize PyData.tuple (other.map PyData.str) = od at *
  have hx1 : mulO (.v (.tuple [.tuple [.int 0, .int 1]])) (.v (.int 3)) = some (.v (.tuple [fr (0, 1), fr (0, 1), fr (0, 1)])) := by rfl
  obtain ⟨r', e2, ⟨u, v, rfl⟩⟩ := lc_filter (f := lcF (callD (FN lw) (n + 10)) [12, 13] (.tup [(.bin .sub (.cst (.int 0)) (.nm 12)), (.nm 13)]) (.tp [(.nm 12), (.nm 13)]) []) (fun s => ∃ u v, s = [some (.lst st'), some (.v re), some (.v (.int day)), some (.v (.int x)), some (.v td), some (.v od), some (.v (.int m)), some (.v (.int i)), some (.v (fr (m - i, 1))), some (.v (fr ex)), some (.v (fr aw)), none, u, v])
    (enc := fr) (p := fun _ => true) (G := fun p => fr (0 - p.1, p.2)) (xs := [(m - i, 1), ex, aw]) (fun p hp s ⟨u, v, e⟩ => by
    subst e
    refine ⟨[some (.lst st'), some (.v re), some (.v (.int day)), some (.v (.int x)), some (.v td), some (.v od), some (.v (.int m)), some (.v (.int i)), some (.v (fr (m - i, 1))), some (.v (fr ex)), some (.v (fr aw)), none, some (.v (.int p.1)), some (.v (.int p.2))], ?_, ⟨_, _, rfl⟩⟩
    unfold lcF
    rw [show fr p = .tuple [.int p.1, .int p.2] from rfl]
    one_item
    rfl) [some (.lst st'), some (.v re), some (.v (.int day)), some (.v (.int x)), some (.v td), some (.v od), some (.v (.int m)), some (.v (.int i)), some (.v (fr (m - i, 1))), some (.v (fr ex)), some (.v (fr aw)), none, none, none] ⟨_, _, rfl⟩
  refine ⟨st', ?_, hst'⟩
  rw [callS (fd := Lib.b_l_right_2) rfl]
  unfold Lib.b_l_right_2
  one_item
  rw [e1]
  one_item
  rw [c1]
  one_item
  rw [c2]
  one_item
  rw [c3]
  one_item
  rw [show (PyData.tuple [.int (m - i), .int 1]) = fr (m - i, 1) from rfl, eqP_frs]
  one_item
  rw [k1]
  one_item
  rw [eqP_frs]
  one_item
  rw [c6]
  one_item
  rw [c7]
  one_item
  rw [k2]
  one_item
  rw [eqP_frs]
  one_item
  rw [lc_run (xs := [fr (m - i, 1), fr ex, fr aw]) (r1 := [some (.lst st'), some (.v re), some (.v (.int day)), some (.v (.int x)), some (.v td), some (.v od), some (.v (.int m)), some (.v (.int i)), some (.v (fr (m - i, 1))), some (.v (fr ex)), some (.v (fr aw)), none, none, none]) (by one_item) e2]
  one_item
  rw [c4]
  one_item
  rw [show (List.map (fun p => fr (0 - p.1, p.2)) (List.filter (fun _ => true) [(m - i, 1), ex, aw])) = [fr (0 - (m - i), 1), fr (0 - ex.1, ex.2), fr (0 - aw.1, aw.2)] from rfl, eqP_t3]
  one_item
  rw [c5]
  one_item
  rw [hx1]
  one_item
  rw [eqP_t3]
  one_item
  subst htd
  one_item
  by_cases h3 : 3 < road.length
  · rw [decide_eq_true (show (3 : Int) < (road.map PyData.str).length by rw [List.length_map]; omega)]
    one_item
  · have b := back (by omega)
    rw [decide_eq_false (show ¬ (3 : Int) < (road.map PyData.str).length by rw [List.length_map]; omega)]
    one_item
    rw [show stpO (.v (.tuple (road.map PyData.str))) none (-1) = some (.v (.tuple (road.map PyData.str).reverse)) from rfl]
    one_item
    have eqB : road.map PyData.str ++ cutL (road.map PyData.str).reverse (some 1) none = (thereBack road).map PyData.str := by
      rw [cut_tail, ← List.map_reverse, ← List.map_drop, ← List.map_append]
      rfl
    rw [if_pos (show (road.map PyData.str).length + (cutL (road.map PyData.str).reverse (some 1) none).length ≤ SZ from by
      rw [cut_tail, List.length_drop, List.length_reverse, List.length_map]
      exact Nat.le_trans (by omega : _ ≤ 10) (by decide)), eqB]
    one_item
    rw [b]
    one_item
    rw [show (PyData.tuple [.int x, .int 1]) = fr (x, 1) from rfl, eqP_frs]
    one_item
end
end Mp
end

/-! ## W84 -/
section
set_option linter.all false
set_option maxRecDepth 100000
namespace Mp
open PySem
local macro_rules | `(tactic| one_item) => `(tactic| simp (config := { decide := false }) only [↓bnd_p, bnd_s, bnd_n, runF_e, endF_nx, endF_rt, exs_c, exs_n, seqF_nx, seqF_rt, seqF_bk, seqF_ct, ex.eq_1, ex.eq_2, ex.eq_3, ex.eq_4, ex.eq_5, ex.eq_6, ex.eq_7, ex.eq_8, ex.eq_9, ex.eq_10, ex.eq_11, ex.eq_12, ex.eq_15, ex.eq_16, ex.eq_17, ex.eq_18, ev.eq_1, ev.eq_2, ev.eq_3, ev.eq_4, ev.eq_5, ev.eq_6, ev.eq_7, ev.eq_8, ev.eq_9, ev.eq_10, ev.eq_11, ev.eq_12, ev.eq_13, ev.eq_14, ev.eq_15, ev.eq_16, ev.eq_17, ev.eq_18, ev.eq_19, ev.eq_20, ev.eq_23, ev.eq_24, ev.eq_25, ev.eq_26, ev.eq_27, evs, evas, evac, evc, evo, evod, evit.eq_1, evit.eq_3, evit.eq_4, evit.eq_5, evit.eq_6, evit.eq_7, evOs, arB_cst, arC_cst, arB_bin, arC_bin, arB_neg, arC_neg, arB_not, arC_not, arB_cmp, arC_cmp, arB_chn, arC_chn, arB_and, arC_and, arB_or, arC_or, arB_ife, arC_ife, arB_tup, arC_tup, arB_lst, arC_lst, arB_dct, arC_dct, arB_idx, arC_idx, arB_slc, arC_slc, arB_stp, arC_stp, arB_cal, arC_cal, arB_blt, arC_blt, arB_mth, arC_mth, arB_isi, arC_isi, arB_lc, arC_lc, arB_dc, arC_dc, arB_pop, arC_pop, arB_app, arC_app, arB_ext, arC_ext, arB_upd, arC_upd, arB_fst, arC_fst, arB_n, arC_n, arN_s, rdA_v, rdA_s, rdAs, hand, ownSl, putB, nodO, isLst, selK, binO, cmpO, ownIx, outs, pairUp_n, pairUp_s, mrg_n, isOwn_v, isOwn_l, isOwn_d, isOO_v, isOO_l, isOO_d, isO_n, isO_b, isNn_n, isNn_i, isNn_b, isNn_s, isNn_t, isNn_l, notB, leO_i, geO_i, ltO_i, gtO_i, eqO, intsO_i, addO_i, addO_t, addO_l, mulO_i, bolO_b, intO_i, isiD, idxO_t, idxO_l, idxO_vl, dctO_d, dctO_v, seqD_l, seqD_t, seqD_vl, lstO_l, lstO_vl, tupO_t, blO, one_e, two_e, absO_i, intB_i, intB_b, onInts_l, onBools_l, min2_i, max2_i, len_t, len_l, len_vl, len_s, setO_l, ixSet_e, List.set_cons_zero, List.set_cons_succ, asgT_n, asgT_t, asgTs_n, asgTs_c, tgOk_n, tgOk_t, tgsOk_n, tgsOk_c, setOs, wipe, back, slcO_t, slcO_vl, slcO_l, itO_l, itO_vl, itO_t, frA, d_v, d_l, d_d, at_z, at_s, set_z, set_s, ixI_0, ixI_1, ixI_2, ixI_3, ixI_4, eqP_i, eqP_s, nc, List.length_cons, List.length_nil, List.map_cons, List.map_nil, List.cons_append, List.nil_append, List.append_nil, rep_s, rep_z, all_rep, Nat.reduceAdd, Nat.reduceSub, Nat.reduceEqDiff, List.getElem?_cons_zero, List.getElem?_cons_succ, ↓Option.bind_eq_bind, Option.bind_some, Option.bind_none, Option.map_some, Option.map_none, Option.pure_def, if_true, if_false, ite_true, ite_false, reduceIte, Bool.not_true, Bool.not_false, Bool.false_eq_true, List.any_cons, List.any_nil, List.contains_cons, List.contains_nil, Bool.or_false, Bool.false_or, Bool.or_self, Bool.and_true, Bool.true_and, Bool.and_self, Bool.and_false, Bool.false_and, Bool.or_true, Bool.true_or, List.nodup_nil, List.nodup_cons, List.mem_cons, List.not_mem_nil, or_false, or_self, not_false_eq_true, and_true, and_self, Nat.reduceEqDiff, Nat.succ_ne_zero, Nat.zero_ne_one, Nat.one_ne_zero, beq_self_eq_true, Nat.reduceBEq, Int.reduceMul, Int.reduceNeg, decide_true, decide_false, Int.reduceLT, Int.reduceLE, Int.reduceEq, Int.ofNat_eq_natCast])
local macro_rules | `(tactic| one_place) => `(tactic| simp (config := { decide := false }) only [↓bnd_p, bnd_s, bnd_n, runF_e, endF_nx, endF_rt, exs_c, exs_n, seqF_nx, seqF_rt, seqF_bk, seqF_ct, ex.eq_1, ex.eq_2, ex.eq_3, ex.eq_4, ex.eq_5, ex.eq_6, ex.eq_7, ex.eq_8, ex.eq_9, ex.eq_10, ex.eq_11, ex.eq_12, ex.eq_15, ex.eq_16, ex.eq_17, ex.eq_18, ev.eq_1, ev.eq_2, ev.eq_3, ev.eq_4, ev.eq_5, ev.eq_6, ev.eq_7, ev.eq_8, ev.eq_9, ev.eq_10, ev.eq_11, ev.eq_12, ev.eq_13, ev.eq_14, ev.eq_15, ev.eq_16, ev.eq_17, ev.eq_18, ev.eq_19, ev.eq_20, ev.eq_23, ev.eq_24, ev.eq_25, ev.eq_26, ev.eq_27, evs, evas, evac, evc, evo, evod, evit.eq_1, evit.eq_3, evit.eq_4, evit.eq_5, evit.eq_6, evit.eq_7, evOs, arB_cst, arC_cst, arB_bin, arC_bin, arB_neg, arC_neg, arB_not, arC_not, arB_cmp, arC_cmp, arB_chn, arC_chn, arB_and, arC_and, arB_or, arC_or, arB_ife, arC_ife, arB_tup, arC_tup, arB_lst, arC_lst, arB_dct, arC_dct, arB_idx, arC_idx, arB_slc, arC_slc, arB_stp, arC_stp, arB_cal, arC_cal, arB_blt, arC_blt, arB_mth, arC_mth, arB_isi, arC_isi, arB_lc, arC_lc, arB_dc, arC_dc, arB_pop, arC_pop, arB_app, arC_app, arB_ext, arC_ext, arB_upd, arC_upd, arB_fst, arC_fst, arB_n, arC_n, arN_s, rdA_v, rdA_s, rdAs, hand, ownSl, putB, nodO, isLst, selK, binO, cmpO, ownIx, outs, pairUp_n, pairUp_s, mrg_n, isOwn_v, isOwn_l, isOwn_d, isOO_v, isOO_l, isOO_d, isO_n, isO_b, isNn_n, isNn_i, isNn_b, isNn_s, isNn_t, isNn_l, notB, leO_i, geO_i, ltO_i, gtO_i, eqO, intsO_i, addO_i, addO_t, addO_l, mulO_i, bolO_b, intO_i, isiD, idxO_t, idxO_l, idxO_vl, dctO_d, dctO_v, seqD_l, seqD_t, seqD_vl, lstO_l, lstO_vl, tupO_t, blO, one_e, two_e, absO_i, intB_i, intB_b, onInts_l, onBools_l, min2_i, max2_i, len_t, len_l, len_vl, len_s, setO_l, ixSet_e, List.set_cons_zero, List.set_cons_succ, asgT_n, asgT_t, asgTs_n, asgTs_c, tgOk_n, tgOk_t, tgsOk_n, tgsOk_c, setOs, wipe, back, slcO_t, slcO_vl, slcO_l, itO_l, itO_vl, itO_t, frA, d_v, d_l, d_d, at_z, at_s, set_z, set_s, ixI_0, ixI_1, ixI_2, ixI_3, ixI_4, eqP_i, eqP_s, nc, List.length_cons, List.length_nil, List.map_cons, List.map_nil, List.cons_append, List.nil_append, List.append_nil, rep_s, rep_z, all_rep, Nat.reduceAdd, Nat.reduceSub, Nat.reduceEqDiff, List.getElem?_cons_zero, List.getElem?_cons_succ, ↓Option.bind_eq_bind, Option.bind_some, Option.bind_none, Option.map_some, Option.map_none, Option.pure_def, if_true, if_false, ite_true, ite_false, reduceIte, Bool.not_true, Bool.not_false, Bool.false_eq_true, List.any_cons, List.any_nil, List.contains_cons, List.contains_nil, Bool.or_false, Bool.false_or, Bool.or_self, Bool.and_true, Bool.true_and, Bool.and_self, Bool.and_false, Bool.false_and, Bool.or_true, Bool.true_or, List.nodup_nil, List.nodup_cons, List.mem_cons, List.not_mem_nil, or_false, or_self, not_false_eq_true, and_true, and_self, Nat.reduceEqDiff, Nat.succ_ne_zero, Nat.zero_ne_one, Nat.one_ne_zero, beq_self_eq_true, Nat.reduceBEq, Int.reduceMul, Int.reduceNeg, decide_true, decide_false, Int.reduceLT, Int.reduceLE, Int.reduceEq, Int.ofNat_eq_natCast, *])
section
variable {lw : List Fd} (n : Nat)
abbrev inB84 : List CS := [(.par [4, 5] [(.cal 49 [(.nm 2), (.idx (.lst [(.cst (.int 9)), (.cst (.int 300)), (.cst (.int 100000))]) (.cal 42 [(.nm 2), (.cst (.int 3))] [] []))] [] []), (.cal 50 [(.nm 2)] [] [])]), (.par [6, 7] [(.cal 45 [(.nm 2)] [] []), (.cal 54 [(.nm 2), (.nm 4), (.nm 5), (.cst (.int 5))] [] [])]), (.iff (.and (.cmp .gt (.blt .len [(.nm 7)]) (.cst (.int 1))) (.not (.cal 72 [(.nm 2), (.nm 4), (.nm 5), (.nm 6), (.nm 7)] [] []))) [(.ret (some (.cst (.bool false))))] [])]
abbrev outB84 : List CS := [(.asg (.nm 2) (.cal 41 [(.nm 0), (.nm 1)] [] [])), (.for (.nm 3) (.rng (.cst (.int 0)) (.cst (.int 2))) inB84)]
abbrev lawS84 (nd d1 : D) (st : List D) (u3 u4 u5 u6 u7 : Option O) : En := [some (.v nd), some (.v d1), some (.lst st), u3, u4, u5, u6, u7]
theorem in_turn84 {nd d1 : D} {st : List D} (h : StOk st) (d3 : D) (u3 u4 u5 u6 u7 : Option O) : ∃ st' v4 v5 v6 v7, forF (callD (FN lw) (n + 12)) [] (.nm 3) inB84 d3 (lawS84 nd d1 st u3 u4 u5 u6 u7) = some (.nx, lawS84 nd d1 st' (some (.v d3)) v4 v5 v6 v7) ∧ StOk st' := by
  obtain ⟨a, st1, e1, a0, a1, h1⟩ := take_i (lw := lw) (n + 11) h 3 (by decide) (by unfold Bd; decide)
  obtain ⟨k, y, q1, q2, hm⟩ := pick (m := 3) ([9, 300, 100000].map PyData.int) rfl a0 a1
  obtain ⟨most, hmost, rfl⟩ := List.mem_map.mp hm
  have hmost : 1 ≤ most ∧ most ≤ 100000 := by
    simp only [List.mem_cons, List.not_mem_nil, or_false] at hmost
    omega
  obtain ⟨R, st2, e2, hR, h2⟩ := rules_i (lw := lw) (n + 9) h1 hmost
  obtain ⟨day, st3, e3, hd, h3⟩ := when_i (lw := lw) (n + 10) h2
  obtain ⟨x, st4, e4, hx, h4⟩ := coins_i (lw := lw) (n + 10) h3
  obtain ⟨trip, st5, e5, ⟨ht, hl⟩, h5⟩ := way_r (lw := lw) (n + 8) R hR day h4
  have run : ∀ (b : Bool) (st6 : List D) , ((2 ≤ trip.length ∧ b = true) ∧ callD (FN lw) (n + 12) 72 [.lst st5, .v R.enc, .v (.int day), .v (.int x), .v (.tuple (trip.map .str))] = some (.v (.bool true), [.lst st6, .v R.enc, .v (.int day), .v (.int x), .v (.tuple (trip.map .str))])) ∨ (¬ 2 ≤ trip.length ∧ st6 = st5) →
      forF (callD (FN lw) (n + 12)) [] (.nm 3) inB84 d3 (lawS84 nd d1 st u3 u4 u5 u6 u7) = some (.nx, lawS84 nd d1 st6 (some (.v d3)) (some (.v R.enc)) (some (.v (.int day))) (some (.v (.int x))) (some (.v (.tuple (trip.map .str))))) := fun b st6 hb => by
    generalize R.enc = re at *
    unfold forF inB84 lawS84
    one_item
    rw [e1]
    one_item
    rw [q1]
    one_item
    rw [show ([.int 9, .int 300, .int 100000] : List D)[k]? = some (.int most) from q2]
    one_item
    rw [e2]
    one_item
    rw [e3]
    one_item
    rw [e4]
    one_item
    rw [e5]
    one_item
    rcases hb with ⟨⟨h2, _⟩, e7⟩ | ⟨h2, rfl⟩
    · rw [decide_eq_true (show (1 : Int) < (trip.map PyData.str).length by rw [List.length_map]; omega)]
      one_item
      rw [e7]
      one_item
    · rw [decide_eq_false (show ¬ (1 : Int) < (trip.map PyData.str).length by rw [List.length_map]; omega)]
      one_item
  by_cases h2 : 2 ≤ trip.length
  · obtain ⟨st6, e7, h6⟩ := right_84 (lw := lw) (n + 1) R hR day hd h5 x hx trip ⟨⟨h2, hl⟩, ht.mem, ht.rat⟩
    exact ⟨st6, _, _, _, _, run true st6 (.inl ⟨⟨h2, rfl⟩, e7⟩), h6⟩
  · exact ⟨st5, _, _, _, _, run true st5 (.inr ⟨h2, rfl⟩), h5⟩
theorem out_turn84 (ns : List Int) (k : Nat) (u1 u2 u3 u4 u5 u6 u7 : Option O) : ∃ st' v3 v4 v5 v6 v7, forF (callD (FN lw) (n + 12)) [] (.nm 1) outB84 (.int k) [some (.v (.list (ns.map .int))), u1, u2, u3, u4, u5, u6, u7] = some (.nx, lawS84 (.list (ns.map .int)) (.int k) st' v3 v4 v5 v6 v7) := by
  obtain ⟨st, e1, h1⟩ := state_i (lw := lw) (n + 10) ns k
  generalize PyData.list (ns.map PyData.int) = nd at *
  obtain ⟨st2, v4, v5, v6, v7, e2, h2⟩ := in_turn84 (lw := lw) n (nd := nd) (d1 := .int k) h1 (.int 0) u3 u4 u5 u6 u7
  obtain ⟨st3, w4, w5, w6, w7, e3, h3⟩ := in_turn84 (lw := lw) n (nd := nd) (d1 := .int k) h2 (.int 1) (some (.v (.int 0))) v4 v5 v6 v7
  refine ⟨st3, some (.v (.int 1)), w4, w5, w6, w7, ?_⟩
  have e4 : forLoop (forF (callD (FN lw) (n + 12)) [] (.nm 3) inB84) (rngD 0 2) (lawS84 nd (.int k) st u3 u4 u5 u6 u7) = some (.nx, lawS84 nd (.int k) st3 (some (.v (.int 1))) w4 w5 w6 w7) := by
    have : rngD 0 2 = [.int 0, .int 1] := rfl
    rw [this, forLoop, e2]
    show forLoop _ [.int 1] _ = _
    rw [forLoop, e3]
    rfl
  unfold forF outB84
  one_item
  rw [e1]
  one_item
  rw [for_run (evit_rng (i := 0) (j := 2) (r1 := lawS84 nd (.int k) st u3 u4 u5 u6 u7) (r2 := lawS84 nd (.int k) st u3 u4 u5 u6 u7) (by one_item) (by one_item) (by decide) (by decide)) (by one_item) e4]
  one_item
theorem law84_r (ns : List Int) (hn : ns.length ≤ 63) : callD (FN lw) (n + 13) 73 [.v (.list (ns.map .int))] = some (.v (.bool true), [.v (.list (ns.map .int))]) := by
  obtain ⟨m, hmi, hm1⟩ : ∃ m : Nat, (if (if (3 : Int) < ns.length then 3 else (ns.length : Int)) > 1 then if (3 : Int) < ns.length then 3 else (ns.length : Int) else 1) = m ∧ m ≤ 3 := ⟨max 1 (min ns.length 3), by (repeat' split) <;> omega, by omega⟩
  have turn := fun k => out_turn84 (lw := lw) n ns k
  have len : ((ns.map PyData.int).length : Int) = ns.length := by rw [List.length_map]
  generalize hnd : PyData.list (ns.map PyData.int) = nd at *
  obtain ⟨r', e, i, u1, u2, u3, u4, u5, u6, u7, rfl, _⟩ := forLoop_inv (f := forF (callD (FN lw) (n + 12)) [] (.nm 1) outB84) (fun xs r => ∃ i : Nat, ∃ u1 u2 u3 u4 u5 u6 u7, r = [some (.v nd), u1, u2, u3, u4, u5, u6, u7] ∧ xs = rngD i m) (rngD 0 m) [some (.v nd), none, none, none, none, none, none, none] ⟨0, none, none, none, none, none, none, none, rfl, rfl⟩ (fun d xs r ⟨i, u1, u2, u3, u4, u5, u6, u7, er, ex⟩ => by
    subst er
    by_cases hi : (i : Int) < m
    · rw [rngD_cons hi] at ex
      obtain ⟨rfl, rfl⟩ := List.cons.inj ex
      obtain ⟨st', v3, v4, v5, v6, v7, e⟩ := turn i u1 u2 u3 u4 u5 u6 u7
      exact ⟨_, e, i + 1, _, _, _, _, _, _, _, rfl, rfl⟩
    · rw [rngD_nil (by omega)] at ex
      cases ex)
  rw [callS (fd := Lib.b_law_k84) rfl]
  unfold Lib.b_law_k84
  one_item
  rw [for_run (evit_rng (i := 0) (j := m) (r1 := [some (.v nd), none, none, none, none, none, none, none]) (r2 := [some (.v nd), none, none, none, none, none, none, none]) (by one_item) (by
    rw [← hnd]
    one_item
    rw [len, hmi]) (by omega) (by omega)) (by one_item) e]
  one_item
end
theorem runs_k84 (ns : List Int) (hn : ns.length ≤ 63) : ∃ os', callD (FN []) 30 73 [.v (.list (ns.map .int))] = some (.v (.bool true), os') := ⟨_, law84_r 17 ns hn⟩
end Mp
end
theorem PySem.Challenge.cw_coinlaw_k84_whole_two_roads_differ_by_ro_holds : PySem.Challenge.rw_coinlaw_k84_whole_two_roads_differ_by_ro.Holds := by
  exact Mp.K84.holds_of Mp.runs_k84

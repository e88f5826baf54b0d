import PyProof.Rows.All
import Wide.All
import OpenK.AllK
import Wide.FinOn
import HandS.Base
import HandS.Call
import HandS.List
import HandS.Comp
import HandS.Text
import KE.SortData
import KE.DataMinMax
import HandS.Words
import HandS.WordsExc
import HandS.IsInst
import HandS.TupAny
import HandS.Deep
import HandS.Wide
import HandS.Walk
import HandS.Style
import HandS.Flow
import HandS.WideMore
import HandS.TupMul
import HandS.SortInts
import HandS.SortRule
import HandS.Sort
import KE.GoesMore
import KE.GoesEnum
import HandS.Iter
import HandS.Zip
import HandS.WordsDict
import HandS.TupLen
import KE.KSortedM
import PyProof.Rows.StrRev
import PyProof.SliceStr2
import HandS.Star
import HandS.ExcCtx
import HandS.ExcOwn
import HandS.TryOnly
import HandS.RevTup
import HandS.Rev
import PyProof.ListRange
import PyProof.ListStr
import HandS.HotCalls
import HandS.ExcIs
import HandS.Defaults
import HandS.Small
import PyProof.ExcBaseAll.ValueError
import HandS.Head0
import HandS.HeadHook1
import HandS.HeadHook2
import HandS.HeadHook3
import HandS.HeadHook4
import HandS.Ends
import HandS.More
import HandS.HeadEnd
import HandS.Head1
import HandS.Head2
import KE.KStateDown
import PySem.Challenge.RW_pinnedtunes_k11_whole_clocks_that_strike
set_option Elab.async false
set_option linter.all false
set_option maxRecDepth 100000
set_option maxHeartbeats 0
/-! The core language: data as trees, texts of defs as terms, and what they come to. -/
namespace Cr
open PySem

/-- a value with all that it holds -/
inductive D where
  | non
  | bl (b : Bool)
  | int (i : Int)
  | str (s : Str)
  | tup (ds : List D)
  | lst (ds : List D)
  | dicK (ks : List L2.Key) (ds : List D)
  | dicT (ks : List (List L2.Key)) (ds : List D)
  | fn (x : Str)
  | drw
  | ilst (is : List Int)
  deriving Inhabited

/-- an error of an own class; the value that it bears -/
structure Ex where
  cls : Str
  at_ : Option D

inductive Res (α : Type) where
  | ok (a : α) (dr : List Int)
  | exc (e : Ex) (dr : List Int)
  | bad
def Res.bind {α β : Type} (r : Res α) (f : α → List Int → Res β) : Res β := match r with
  | .ok a dr => f a dr
  | .exc e dr => .exc e dr
  | .bad => .bad
theorem Res.bind_ok {α β : Type} (a : α) (dr : List Int) (f : α → List Int → Res β) : (Res.ok a dr).bind f = f a dr := rfl
theorem Res.bind_exc {α β : Type} (e : Ex) (dr : List Int) (f : α → List Int → Res β) : (Res.exc e dr : Res α).bind f = .exc e dr := rfl
theorem Res.bind_bad {α β : Type} (f : α → List Int → Res β) : (Res.bad : Res α).bind f = .bad := rfl
def ofO {α : Type} (o : Option α) (dr : List Int) : Res α := match o with
  | some a => .ok a dr
  | none => .bad
theorem ofO_some {α : Type} (a : α) (dr : List Int) : ofO (some a) dr = .ok a dr := rfl

inductive Sl where
  | no
  | val (d : D)
  | own (d : D)
  deriving Inhabited
abbrev Env := List Sl

inductive Pat where
  | nm (i : Nat)
  | nil
  | cons (p ps : Pat)
  | tp (ps : Pat)

inductive BOp where
  | add | sub | mul | fdiv | mod | pow | shl | shr | band | bor | bxor
  deriving DecidableEq
inductive COp where
  | eq | ne | lt | le | gt | ge | is | isnot | in_ | notin
  deriving DecidableEq
/-- built-in functions -/
inductive BI where
  | len | abs | max | min | sum | all | any | int | list | tuple | sorted | str | reversed | set | dict | bool
  deriving DecidableEq
/-- methods -/
inductive MI where
  | join | get | index | count | startswith | endswith | split
  deriving DecidableEq
inductive Ty where
  | int | bool | str | tuple | list | dict
  deriving DecidableEq

inductive CE where
  | var (i : Nat)
  | non | bl (b : Bool) | int (i : Int) | str (s : Str)
  | glo (x : Str)
  | fnv (x : Str)
  | nil | cons (e es : CE) | scons (e es : CE)
  | bin (op : BOp) (a b : CE)
  | neg (a : CE)
  | cmp (op : COp) (a b : CE)
  | cmp2 (o1 o2 : COp) (a b c : CE)
  | isN (a : CE) | notN (a : CE)
  | and (es : CE) | or (es : CE) | not (a : CE)
  | ife (c a b : CE)
  | tup (es : CE) | lst (es : CE)
  | dicE (t : Bool)
  | call (f : Str) (es : CE)
  | callv (f es : CE)
  | blt (f : BI) (es : CE)
  | isi (a : CE) (t : Ty)
  | meth (m : MI) (o es : CE)
  | ix (a i : CE)
  | sl (a lo hi : CE)
  | rev (a : CE)
  | rng (es : CE) | enum (a : CE) | zip (a b : CE) | items (a : CE) | vals (a : CE) | rvd (a : CE) | keys (a : CE)
  | lc (p : Pat) (it t e : CE)
  | lc2 (p : Pat) (it t : CE) (p2 : Pat) (it2 t2 e : CE)
  | dc (k : Bool) (p : Pat) (it t key e : CE)
  | dpop (i : Nat)
  | dlen (i : Nat)
  | fstr (es : CE)
  | lrev (a : CE)
  | sset (a : CE) | lset (a : CE)
  | cmp3 (o1 o2 o3 : COp) (a b c d : CE)
  | lvals (a : CE) | litems (a : CE) | lzip (a b : CE)
  | dsp (t : Bool) (ks vs : CE)
  | fmt (a : CE)
  | rpr (a : CE)
  | dead

/-- a block: each constructor is one statement and what follows it -/
inductive CS where
  | done
  | ex (e : CE) (k : CS)
  | asg (p : Pat) (e : CE) (k : CS)
  | own (i : Nat) (e : CE) (k : CS)
  | par (i j : Nat) (a b : CE) (k : CS)
  | par3 (i j l : Nat) (a b c : CE) (k : CS)
  | aug (i : Nat) (op : BOp) (e : CE) (k : CS)
  | app (i : Nat) (e : CE) (k : CS)
  | ext (i : Nat) (e : CE) (k : CS)
  | setI (i : Nat) (x e : CE) (k : CS)
  | augI (i : Nat) (op : BOp) (x e : CE) (k : CS)
  | popS (p : Pat) (i : Nat) (k : CS)
  | popD (p : Pat) (i : Nat) (x : CE) (k : CS)
  | frz (i : Nat) (k : CS)
  | wip (i : Nat) (k : CS)
  | parO (is : List (Nat × Bool)) (es : CE) (k : CS)
  | ifs (c : CE) (a b k : CS)
  | for_ (p : Pat) (it : CE) (body k : CS)
  | whl (c : CE) (body k : CS)
  | brk | cnt
  | ret (e : CE) | ret0
  | rse (x : Str) (e : CE)
  | tryF (x f : Str) (i : Nat) (body k : CS)
  | forD (p : Pat) (i : Nat) (body k : CS)
  | dead

/-! ### data -/
mutual
def D.py : D → Option PyData
  | .non => some .none
  | .bl b => some (.bool b)
  | .int i => some (.int i)
  | .str s => some (.str s)
  | .tup ds => (D.pys ds).map PyData.tuple
  | .lst ds => (D.pys ds).map PyData.list
  | _ => none
def D.pys : List D → Option (List PyData)
  | [] => some []
  | d :: ds => match d.py, D.pys ds with
    | some p, some ps => some (p :: ps)
    | _, _ => none
end
def D.key : D → Option L2.Key
  | .int i => some (.inl i)
  | .str s => some (.inr s)
  | _ => none
def keysOf : List D → Option (List L2.Key)
  | [] => some []
  | d :: ds => match d.key, keysOf ds with
    | some k, some ks => some (k :: ks)
    | _, _ => none
def D.ofKey : L2.Key → D
  | .inl i => .int i
  | .inr s => .str s
def intsOf : List D → Option (List Int)
  | [] => some []
  | .int i :: ds => (intsOf ds).map (i :: ·)
  | _ :: _ => none
def strsOf : List D → Option (List Str)
  | [] => some []
  | .str s :: ds => (strsOf ds).map (s :: ·)
  | _ :: _ => none
def blsOf : List D → Option (List Bool)
  | [] => some []
  | .bl b :: ds => (blsOf ds).map (b :: ·)
  | _ :: _ => none
/-- a dict's value at a key, by the keys' row -/
def lookK {κ : Type} [DecidableEq κ] (ks : List κ) (ds : List D) (k : κ) : Option D := match ks, ds with
  | k' :: ks, d :: ds => if k' = k then some d else lookK ks ds k
  | _, _ => none
def putKs {κ : Type} [DecidableEq κ] : List κ → List D → κ → D → List κ × List D
  | k' :: ks, d :: ds, k, v => if k' = k then (k' :: ks, v :: ds) else let r := putKs ks ds k v; (k' :: r.1, d :: r.2)
  | _, _, k, v => ([k], [v])
def dropKs {κ : Type} [DecidableEq κ] : List κ → List D → κ → List κ × List D
  | k' :: ks, d :: ds, k => if k' = k then (ks, ds) else let r := dropKs ks ds k; (k' :: r.1, d :: r.2)
  | _, _, _ => ([], [])

def szOk (n : Nat) : Bool := decide (n ≤ sizeLine)
def grd {α : Type} (b : Bool) (a : α) : Option α := if b = true then some a else none

def mulOk (i j : Int) : Bool := decide (-(2 ^ 64) < i ∧ i < 2 ^ 64) || decide (-(2 ^ 64) < j ∧ j < 2 ^ 64) || decide (i.natAbs.log2 + j.natAbs.log2 < 1000000)
def divOk (j : Int) : Bool := decide (0 < j) && (decide (j < 1073741824) || decide (j.natAbs.log2 < 9000))
def powOk (i j : Int) : Bool := decide (0 ≤ j ∧ j ≤ 1000000 ∧ i.natAbs < 2 ^ 64)
def repStr (s : Str) (n : Nat) : Str := ⟨(List.replicate n s.cps.toList).flatten.toArray⟩
def binD : BOp → D → D → Option D
  | .add, .int i, .int j => some (.int (i + j))
  | .add, .str x, .str y => grd (szOk (x.length + y.length)) (.str (x ++ y))
  | .add, .lst xs, .lst ys => grd (szOk (xs.length + ys.length)) (.lst (xs ++ ys))
  | .add, .tup xs, .tup ys => grd (szOk (xs.length + ys.length)) (.tup (xs ++ ys))
  | .sub, .int i, .int j => some (.int (i - j))
  | .mul, .int i, .int j => grd (mulOk i j) (.int (i * j))
  | .mul, .lst xs, .int j => grd (decide (-(2 ^ 63) ≤ j ∧ j < 2 ^ 63) && szOk (xs.length * j.toNat)) (.lst (List.replicate j.toNat xs).flatten)
  | .mul, .tup xs, .int j => grd (!xs.isEmpty && decide (2 ≤ j ∧ j ≤ 1000 ∧ xs.length ≤ 1000)) (.tup (List.replicate j.toNat xs).flatten)
  | .mul, .str s, .int j => grd (decide (-(2 ^ 63) ≤ j ∧ j < 2 ^ 63) && szOk (s.length * j.toNat)) (.str (repStr s j.toNat))
  | .fdiv, .int i, .int j => grd (divOk j) (.int (i / j))
  | .mod, .int i, .int j => grd (decide (0 < j)) (.int (i % j))
  | .pow, .int i, .int j => grd (powOk i j) (.int (i ^ j.toNat))
  | .shl, .int i, .int j => grd (powOk i j) (.int (i * 2 ^ j.toNat))
  | .shr, .int i, .int j => grd (decide (0 ≤ j)) (.int (i / 2 ^ j.toNat))
  | .band, .int i, .int j => some (.int (Builtin.bitAnd i j))
  | .bor, .int i, .int j => some (.int (Builtin.bitOr i j))
  | .bxor, .int i, .int j => some (.int (Builtin.bitXor i j))
  | _, _, _ => none
/-- in place, ints alone -/
def augD : BOp → D → D → Option D
  | .add, .int i, .int j => some (.int (i + j))
  | .sub, .int i, .int j => some (.int (i - j))
  | .mul, .int i, .int j => grd (decide (-(2 ^ 64) < i ∧ i < 2 ^ 64) || decide (-(2 ^ 64) < j ∧ j < 2 ^ 64)) (.int (i * j))
  | .fdiv, .int i, .int j => grd (divOk j) (.int (i / j))
  | .mod, .int i, .int j => grd (decide (0 < j)) (.int (i % j))
  | .shl, .int i, .int j => grd (powOk i j) (.int (i * 2 ^ j.toNat))
  | .band, .int i, .int j => some (.int (Builtin.bitAnd i j))
  | .bor, .int i, .int j => some (.int (Builtin.bitOr i j))
  | .bxor, .int i, .int j => some (.int (Builtin.bitXor i j))
  | _, _, _ => none
def eqD (x y : D) : Option Bool := match x.py, y.py with
  | some a, some b => grd (SeqAt.shaped a && SeqAt.shaped b) (PyData.eqv a b)
  | _, _ => none
def strLt (x y : Str) : Bool := decide (x.cps.toList < y.cps.toList)
/-- the two can be put in order -/
def cmpOk (a b : PyData) : Bool := W.alike a b && SeqAt.shaped a && SeqAt.shaped b && (match a with
  | .none => false
  | _ => true)
def ltG (x y : D) : Option Bool := match x.py, y.py with
  | some a, some b => grd (cmpOk a b) (W.dataLt a b)
  | _, _ => none
def ltD : D → D → Option Bool
  | .int i, .int j => some (decide (i < j))
  | .str x, .str y => some (strLt x y)
  | .tup xs, .tup ys => match intsOf xs, intsOf ys with
    | some a, some b => some (HT.lexLt a b)
    | _, _ => ltG (.tup xs) (.tup ys)
  | x, y => ltG x y
def leD : D → D → Option Bool
  | .int i, .int j => some (decide (i ≤ j))
  | .str x, .str y => some (!strLt y x)
  | x, y => (ltG y x).map (!·)
def gtD : D → D → Option Bool
  | .int i, .int j => some (decide (j < i))
  | .str x, .str y => some (strLt y x)
  | x, y => ltG y x
def geD : D → D → Option Bool
  | .int i, .int j => some (decide (j ≤ i))
  | .str x, .str y => some (!strLt x y)
  | x, y => (ltG x y).map (!·)
def inD (x : D) : D → Option Bool
  | .str z => match x with
    | .str s => match s.cps.toList with
      | [c] => some (decide (c ∈ z.cps.toList))
      | _ => none
    | _ => none
  | .lst ds => match x.py, D.pys ds with
    | some a, some bs => grd (SeqAt.shaped a && SeqAt.shaped (.list bs)) (bs.any fun z => PyData.eqv z a)
    | _, _ => none
  | .tup ds => match x.py, D.pys ds with
    | some a, some bs => grd (SeqAt.shaped a && SeqAt.shaped (.list bs)) (bs.any fun z => PyData.eqv z a)
    | _, _ => none
  | .dicK ks ds => match x.key with
    | some k => some (lookK ks ds k).isSome
    | none => none
  | .dicT ks ds => match x with
    | .tup es => match keysOf es with
      | some k => some (lookK ks ds k).isSome
      | none => none
    | _ => none
  | _ => none
def cmpD : COp → D → D → Option Bool
  | .eq, x, y => eqD x y
  | .ne, x, y => (eqD x y).map (!·)
  | .lt, x, y => ltD x y
  | .le, x, y => leD x y
  | .gt, x, y => gtD x y
  | .ge, x, y => geD x y
  | .is, .bl a, .bl b => some (decide (a = b))
  | .isnot, .bl a, .bl b => some (!decide (a = b))
  | .in_, x, y => inD x y
  | .notin, x, y => (inD x y).map (!·)
  | _, _, _ => none
/-- truth -/
def D.tru : D → Option Bool
  | .non => some false
  | .bl b => some b
  | .int i => some (i != 0)
  | .str s => grd (szOk s.length) (s.length != 0)
  | .tup ds => some (!ds.isEmpty)
  | .lst ds => some (!ds.isEmpty)
  | _ => none
def isNone : D → Bool
  | .non => true
  | _ => false
def isiD : Ty → D → Option Bool
  | t, .non => some false
  | t, .bl _ => some (t == .bool || t == .int)
  | t, .int _ => some (t == .int)
  | t, .str _ => some (t == .str)
  | t, .tup _ => some (t == .tuple)
  | t, .lst _ => some (t == .list)
  | t, .dicK _ _ => some (t == .dict)
  | t, .dicT _ _ => some (t == .dict)
  | _, _ => none
def maxI : List Int → Option Int
  | [] => none
  | i :: is => some (is.foldl max i)
def minI : List Int → Option Int
  | [] => none
  | i :: is => some (is.foldl min i)
def insI (x : Int) : List Int → List Int
  | [] => [x]
  | y :: r => if x ≤ y then x :: y :: r else y :: insI x r
def sortI : List Int → List Int
  | [] => []
  | x :: r => insI x (sortI r)
def insS (x : List Int) : List (List Int) → List (List Int)
  | [] => [x]
  | y :: r => if HT.lexLt y x = true then y :: insS x r else x :: y :: r
def sortS : List (List Int) → List (List Int)
  | [] => []
  | x :: r => insS x (sortS r)
def tupsOf : List D → Option (List (List Int))
  | [] => some []
  | .tup es :: ds => match intsOf es, tupsOf ds with
    | some i, some is => some (i :: is)
    | _, _ => none
  | _ :: _ => none
def allOk (ps : List PyData) : Bool := ps.all fun a => ps.all fun b => cmpOk a b
def isTupP : PyData → Bool
  | .tuple _ => true
  | _ => false
def isLstP : PyData → Bool
  | .list _ => true
  | _ => false
def isTup1 : PyData → Bool
  | .tuple (_ :: _) => true
  | _ => false
def srtOk (ps : List PyData) : Bool := allOk ps && (ps.all isTup1 || ps.all fun p => !isTupP p)
def leP (a b : D × PyData) : Bool := !W.dataLt b.2 a.2
def sortD (ds : List D) : Option (List D) := match intsOf ds with
  | some is => some ((sortI is).map .int)
  | none => match tupsOf ds with
    | some ts => grd (ts.all fun t => !t.isEmpty) ((sortS ts).map fun t => .tup (t.map .int))
    | none => match D.pys ds with
      | some ps => grd (srtOk ps) (((ds.zip ps).mergeSort leP).map (·.1))
      | none => none
/-- the first of the least, of the greatest -/
def minP (x : D × PyData) (xs : List (D × PyData)) : D := (xs.foldl (fun a y => if W.dataLt y.2 a.2 then y else a) x).1
def maxP (x : D × PyData) (xs : List (D × PyData)) : D := (xs.foldl (fun a y => if W.dataLt a.2 y.2 then y else a) x).1
def minG (ds : List D) : Option D := match ds, D.pys ds with
  | d :: ds, some (p :: ps) => grd (allOk (p :: ps) && (p :: ps).all fun q => !isLstP q) (minP (d, p) (ds.zip ps))
  | _, _ => none
def maxG (ds : List D) : Option D := match ds, D.pys ds with
  | d :: ds, some (p :: ps) => grd (allOk (p :: ps) && (p :: ps).all fun q => !isLstP q) (maxP (d, p) (ds.zip ps))
  | _, _ => none
def strLen (s : Str) : Option D := grd (szOk s.length) (.int s.length)
def bltD : BI → List D → Option D
  | .len, [.str s] => strLen s
  | .len, [.tup ds] => some (.int ds.length)
  | .len, [.lst ds] => some (.int ds.length)
  | .len, [.ilst is] => some (.int is.length)
  | .len, [.dicK ks ds] => some (.int ks.length)
  | .len, [.dicT ks ds] => some (.int ks.length)
  | .abs, [.int i] => some (.int (if i < 0 then -i else i))
  | .max, [.int i, .int j] => some (.int (if j > i then j else i))
  | .min, [.int i, .int j] => some (.int (if j < i then j else i))
  | .max, [.lst ds] => match intsOf ds with
    | some is => (maxI is).map .int
    | none => maxG ds
  | .min, [.lst ds] => match intsOf ds with
    | some is => (minI is).map .int
    | none => minG ds
  | .sum, [.lst ds] => (intsOf ds).map fun is => .int is.sum
  | .all, [.lst ds] => (blsOf ds).map fun bs => .bl (bs.all id)
  | .any, [.lst ds] => (blsOf ds).map fun bs => .bl (bs.any id)
  | .int, [.int i] => some (.int i)
  | .int, [.bl b] => some (.int (if b then 1 else 0))
  | .bool, [.bl b] => some (.bl b)
  | .list, [.lst ds] => some (.lst ds)
  | .list, [.tup ds] => some (.lst ds)
  | .tuple, [.lst ds] => some (.tup ds)
  | .tuple, [.tup ds] => some (.tup ds)
  | .sorted, [.lst ds] => (sortD ds).map .lst
  | .str, [.int i] => grd (decide (i.natAbs.log2 < 1920)) (.str (Str.ofString (toString i)))
  | _, _ => none
def cut {α : Type} (xs : List α) (lo hi : Option Int) : List α := (xs.drop (HT.sIx xs.length 0 lo)).take (HT.sIx xs.length xs.length hi - HT.sIx xs.length 0 lo)
def ixD : D → D → Option D
  | .tup ds, .int i => L2.atI ds i
  | .lst ds, .int i => L2.atI ds i
  | .ilst is, .int i => (L2.atI is i).map .int
  | .str s, .int i => match szOk s.length, L2.atI s.cps.toList i with
    | true, some c => some (.str ⟨#[c]⟩)
    | _, _ => none
  | .dicK ks ds, d => match d.key with
    | some k => lookK ks ds k
    | none => none
  | .dicT ks ds, .tup es => match keysOf es with
    | some k => lookK ks ds k
    | none => none
  | _, _ => none
def slD : D → Option Int → Option Int → Option D
  | .tup ds, lo, hi => some (.tup (cut ds lo hi))
  | .lst ds, lo, hi => some (.lst (cut ds lo hi))
  | .str s, lo, hi => grd (szOk s.length) (.str ⟨(cut s.cps.toList lo hi).toArray⟩)
  | _, _, _ => none
def revD : D → Option D
  | .lst ds => some (.lst ds.reverse)
  | .str s => grd (szOk s.length) (.str ⟨s.cps.toList.reverse.toArray⟩)
  | _ => none
/-- what all glued come to -/
def joinLen (sep : Nat) : List Str → Nat
  | [] => 0
  | [s] => s.length
  | s :: r => s.length + sep + joinLen sep r
def joinS (sep : Str) : List Str → List Nat
  | [] => []
  | [s] => s.cps.toList
  | s :: r => s.cps.toList ++ sep.cps.toList ++ joinS sep r
def methD : MI → D → List D → Option D
  | .join, .str sep, [.lst ds] => match strsOf ds with
    | some ss => grd (decide ((ss.map (·.length)).sum + ss.length * sep.length ≤ 16777216)) (.str (Str.join sep ss))
    | none => none
  | .get, .dicK ks ds, [k, d] => match k.key with
    | some k => some ((lookK ks ds k).getD d)
    | none => none
  | .get, .dicT ks ds, [.tup es, d] => match keysOf es with
    | some k => some ((lookK ks ds k).getD d)
    | none => none
  | _, _, _ => none
/-- the receiver's kind -/
def rcv : MI → D → Option D
  | .join, .str s => some (.str s)
  | .get, .dicK ks ds => some (.dicK ks ds)
  | .get, .dicT ks ds => some (.dicT ks ds)
  | _, _ => none
/-- what a for walks -/
def iterD : D → Option (List D)
  | .tup ds => some ds
  | .lst ds => some ds
  | .str s => grd (szOk s.length) (s.cps.toList.map fun c => .str ⟨#[c]⟩)
  | .ilst is => some (is.map .int)
  | _ => none
def in62 (i : Int) : Bool := decide (-(2 ^ 62) ≤ i ∧ i < 2 ^ 62)
def rngL (i : Int) (n : Nat) (c : Int) : List D := (List.range n).map fun k => D.int (i + (k : Nat) * c)
def rngD : List D → Option (List D)
  | [.int j] => grd (in62 j && szOk j.toNat) (rngL 0 j.toNat 1)
  | [.int i, .int j] => grd (in62 i && in62 j && szOk (j - i).toNat) (rngL i (j - i).toNat 1)
  | [.int i, .int j, .int c] => grd (decide (c ≠ 0) && decide (c.natAbs < 1073741824) && Builtin.Range.small i j c && szOk (Builtin.Range.rangeSize i j c).toNat) (rngL i (Builtin.Range.rangeSize i j c).toNat c)
  | _ => none
def enumL : Nat → List D → List D
  | _, [] => []
  | k, d :: ds => .tup [.int (k : Nat), d] :: enumL (k + 1) ds
def zipL : List D → List D → List D
  | x :: xs, y :: ys => .tup [x, y] :: zipL xs ys
  | _, _ => []
def itemsL : List L2.Key → List D → List D
  | k :: ks, d :: ds => .tup [D.ofKey k, d] :: itemsL ks ds
  | _, _ => []
def itemsT : List (List L2.Key) → List D → List D
  | k :: ks, d :: ds => .tup [.tup (k.map D.ofKey), d] :: itemsT ks ds
  | _, _ => []
def itemsD : D → Option (List D)
  | .dicK ks ds => some (itemsL ks ds)
  | _ => none
def keysD : D → Option (List D)
  | .dicK ks _ => some (ks.map D.ofKey)
  | _ => none
def valsD : D → Option (List D)
  | .dicK _ ds => some ds
  | _ => none
def fmtD : D → Option Str
  | .str s => grd (szOk s.length) s
  | .int i => grd (decide (i.natAbs.log2 < 1920)) (Str.ofString (toString i))
  | _ => none

/-- a dict made of pairs, one behind the other -/
def dicPK : List L2.Key → List D → List (D × D) → Option D
  | ks, ds, [] => some (.dicK ks ds)
  | ks, ds, (k, v) :: r => match k.key with
    | some k => let q := putKs ks ds k v; dicPK q.1 q.2 r
    | none => none
def dicPT : List (List L2.Key) → List D → List (D × D) → Option D
  | ks, ds, [] => some (.dicT ks ds)
  | ks, ds, (.tup es, v) :: r => match keysOf es with
    | some k => let q := putKs ks ds k v; dicPT q.1 q.2 r
    | none => none
  | _, _, _ :: _ => none
def dicP (t : Bool) (ps : List (D × D)) : Option D := if t then dicPT [] [] ps else dicPK [] [] ps
/-- the different ones, each where it stands first -/
def nubD (ds : List D) : Option (List D) := match intsOf ds with
  | some is => some (is.eraseDups.map .int)
  | none => match tupsOf ds with
    | some ts => some (ts.eraseDups.map fun t => .tup (t.map .int))
    | none => none

/-! ### places -/
def get (env : Env) (i : Nat) : Sl := env.getD i .no
/-- a name as it may be handed on; as it may be looked at -/
def varS : Sl → Option D
  | .val d => some d
  | _ => none
def varP : Sl → Option D
  | .val d => some d
  | .own d => some d
  | .no => none
def asgP : Pat → D → Env → Option Env
  | .nm i, d, env => if i < env.length then some (env.set i (.val d)) else none
  | .nil, .lst [], env => some env
  | .cons p ps, .lst (d :: ds), env => (asgP p d env).bind fun env => asgP ps (.lst ds) env
  | .tp ps, .tup ds, env => asgP ps (.lst ds) env
  | .tp ps, .lst ds, env => asgP ps (.lst ds) env
  | _, _, _ => none
def slots : Pat → List Nat
  | .nm i => [i]
  | .nil => []
  | .cons p ps => slots p ++ slots ps
  | .tp ps => slots ps
def wipeE (env : Env) : List Nat → Env
  | [] => env
  | i :: is => (wipeE env is).set i .no

structure Cfg where
  fns : Str → Option (List D → List Int → Res D)
  cons : Str → Option D
  fuel : Nat
  sub : Str → Str → Option Bool
  flg : Str → Str → Option D
  ar : Str → Option Nat
/-- a def as a value: what it does, how many it takes -/
def fnOf (G : Cfg) : D → Option ((List D → List Int → Res D) × Nat)
  | .fn f => match G.fns f, G.ar f with
    | some g, some n => some (g, n)
    | _, _ => none
  | _ => none
/-- what a star spreads -/
def seqD : D → Option (List D)
  | .tup ds => some ds
  | .lst ds => some ds
  | _ => none

/-- one item after the other: b the block (a test, what is kept) -/
def lcL (b : D → List Int → Res (Option D)) : List D → List Int → Res (List D)
  | [], dr => .ok [] dr
  | d :: ds, dr => (b d dr).bind fun o dr => (lcL b ds dr).bind fun r dr => .ok (match o with
    | some y => y :: r
    | none => r) dr
/-- no error leaves a comprehension -/
def noX {α : Type} : Res α → Res α
  | .ok a dr => .ok a dr
  | _ => .bad
/-- pairs of keys and values, one item after the other -/
def dcL (b : D → List Int → Res (Option (D × D))) : List D → List Int → Res (List (D × D))
  | [], dr => .ok [] dr
  | d :: ds, dr => (b d dr).bind fun o dr => (dcL b ds dr).bind fun r dr => .ok (match o with
    | some y => y :: r
    | none => r) dr
def lcL2 (b : D → List Int → Res (List D)) : List D → List Int → Res (List D)
  | [], dr => .ok [] dr
  | d :: ds, dr => (b d dr).bind fun o dr => (lcL2 b ds dr).bind fun r dr => .ok (o ++ r) dr

def asO (o : Option Int) : D → Option (Option Int)
  | .int i => some (some i)
  | _ => none

mutual
def evE (G : Cfg) : CE → Bool → Env → List Int → Res D
  | .var i, pk, env, dr => ofO (if pk then varP (get env i) else varS (get env i)) dr
  | .non, _, _, dr => .ok .non dr
  | .bl b, _, _, dr => .ok (.bl b) dr
  | .int i, _, _, dr => .ok (.int i) dr
  | .str s, _, _, dr => .ok (.str s) dr
  | .glo x, _, _, dr => ofO (G.cons x) dr
  | .fnv x, _, _, dr => .ok (.fn x) dr
  | .bin op a b, _, env, dr => (evE G a true env dr).bind fun x dr => (evE G b true env dr).bind fun y dr => ofO (binD op x y) dr
  | .neg a, _, env, dr => (evE G a true env dr).bind fun x dr => ofO (match x with
    | .int i => some (.int (-i))
    | _ => none) dr
  | .cmp op a b, _, env, dr => (evE G a true env dr).bind fun x dr => (evE G b true env dr).bind fun y dr => ofO ((cmpD op x y).map .bl) dr
  | .cmp2 o1 o2 a b c, _, env, dr => (evE G a true env dr).bind fun x dr => (evE G b true env dr).bind fun y dr => (ofO (cmpD o1 x y) dr).bind fun k dr =>
    match k with
    | true => (evE G c true env dr).bind fun z dr => ofO ((cmpD o2 y z).map .bl) dr
    | false => .ok (.bl false) dr
  | .isN a, _, env, dr => (evE G a true env dr).bind fun x dr => .ok (.bl (isNone x)) dr
  | .notN a, _, env, dr => (evE G a true env dr).bind fun x dr => .ok (.bl (!isNone x)) dr
  | .and es, _, env, dr => evAnd G es env dr
  | .or es, _, env, dr => evOr G es env dr
  | .not a, _, env, dr => (evE G a true env dr).bind fun x dr => ofO (match x with
    | .bl b => some (.bl (!b))
    | _ => none) dr
  | .ife c a b, _, env, dr => (evT G c env dr).bind fun t dr => match t with
    | true => evE G a false env dr
    | false => evE G b false env dr
  | .tup es, _, env, dr => (evL G es env dr).bind fun ds dr => ofO (grd (szOk ds.length) (.tup ds)) dr
  | .lst es, _, env, dr => (evL G es env dr).bind fun ds dr => ofO (grd (szOk ds.length) (.lst ds)) dr
  | .dicE t, _, _, dr => .ok (if t then .dicT [] [] else .dicK [] []) dr
  | .call f es, _, env, dr => (evL G es env dr).bind fun ds dr => match G.fns f with
    | some g => g ds dr
    | none => .bad
  | .callv f es, _, env, dr => (evE G f true env dr).bind fun x dr => (ofO (fnOf G x) dr).bind fun q dr => (evL G es env dr).bind fun ds dr => if ds.length = q.2 then q.1 ds dr else .bad
  | .blt f es, _, env, dr => (evLp G es env dr).bind fun ds dr => ofO (bltD f ds) dr
  | .isi a t, _, env, dr => (evE G a true env dr).bind fun x dr => ofO ((isiD t x).map .bl) dr
  | .meth m o es, _, env, dr => (evE G o true env dr).bind fun x dr => (ofO (rcv m x) dr).bind fun x dr => (evL G es env dr).bind fun ds dr => ofO (methD m x ds) dr
  | .ix a i, _, env, dr => (evE G a true env dr).bind fun x dr => (evE G i true env dr).bind fun y dr => ofO (ixD x y) dr
  | .sl a lo hi, _, env, dr => (evE G a true env dr).bind fun x dr => (evO G lo env dr).bind fun l dr => (evO G hi env dr).bind fun h dr => ofO (slD x l h) dr
  | .rev a, _, env, dr => (evE G a true env dr).bind fun x dr => ofO (revD x) dr
  | .lc p it t e, _, env, dr => (evI G it true env dr).bind fun xs dr => noX ((lcL (fun d dr => (ofO (asgP p d (wipeE env (slots p))) dr).bind fun env dr =>
      (evTs G t env dr).bind fun k dr => match k with
      | true => (evE G e false env dr).bind fun y dr => .ok (some y) dr
      | false => .ok none dr) xs dr).bind fun ys dr => .ok (.lst ys) dr)
  | .lc2 p it t p2 it2 t2 e, _, env, dr => (evI G it true env dr).bind fun xs dr => noX ((lcL2 (fun d dr => (ofO (asgP p d (wipeE env (slots p ++ slots p2))) dr).bind fun env dr =>
      (evTs G t env dr).bind fun k dr => match k with
      | true => (evI G it2 true env dr).bind fun ys dr => lcL (fun d dr => (ofO (asgP p2 d (wipeE env (slots p2))) dr).bind fun env dr =>
        (evTs G t2 env dr).bind fun k dr => match k with
        | true => (evE G e false env dr).bind fun y dr => .ok (some y) dr
        | false => .ok none dr) ys dr
      | false => .ok [] dr) xs dr).bind fun ys dr => ofO (grd (szOk ys.length) (.lst ys)) dr)
  | .dc k p it t key e, _, env, dr => (evI G it true env dr).bind fun xs dr => noX ((dcL (fun d dr => (ofO (asgP p d (wipeE env (slots p))) dr).bind fun env dr =>
      (evTs G t env dr).bind fun q dr => match q with
      | true => (evE G key true env dr).bind fun x dr => (evE G e false env dr).bind fun y dr => .ok (some (x, y)) dr
      | false => .ok none dr) xs dr).bind fun ys dr => ofO (grd (decide (ys.length < sizeLine)) ys >>= dicP k) dr)
  | .sset a, _, env, dr => (evE G a true env dr).bind fun x dr => ofO (match x with
    | .lst ds => (nubD ds).bind fun es => (sortD es).map .lst
    | .tup ds => (nubD ds).bind fun es => (sortD es).map .lst
    | _ => none) dr
  | .lset a, _, env, dr => (evE G a true env dr).bind fun x dr => ofO (match x with
    | .lst ds => (nubD ds).map fun es => .int es.length
    | .tup ds => (nubD ds).map fun es => .int es.length
    | _ => none) dr
  | .dpop i, _, env, dr => match get env i, dr with
    | .val .drw, x :: r => .ok (.int x) r
    | _, _ => .bad
  | .dlen i, _, env, dr => match get env i with
    | .val .drw => .ok (.int dr.length) dr
    | _ => .bad
  | .lrev a, _, env, dr => (evE G a true env dr).bind fun x dr => ofO (match x with
    | .lst ds => some (.lst ds.reverse)
    | _ => none) dr
  | .fstr es, _, env, dr => (evL G es env dr).bind fun ds dr => .bad
  | _, _, _, _ => .bad
/-- a test -/
def evT (G : Cfg) : CE → Env → List Int → Res Bool
  | .not a, env, dr => (evT G a env dr).bind fun b dr => .ok (!b) dr
  | .and es, env, dr => evTand G es env dr
  | .or es, env, dr => evTor G es env dr
  | .cmp op a b, env, dr => (evE G a true env dr).bind fun x dr => (evE G b true env dr).bind fun y dr => ofO (cmpD op x y) dr
  | .cmp2 o1 o2 a b c, env, dr => (evE G a true env dr).bind fun x dr => (evE G b true env dr).bind fun y dr => (ofO (cmpD o1 x y) dr).bind fun k dr =>
    match k with
    | true => (evE G c true env dr).bind fun z dr => ofO (cmpD o2 y z) dr
    | false => .ok false dr
  | .isN a, env, dr => (evE G a true env dr).bind fun x dr => .ok (isNone x) dr
  | .notN a, env, dr => (evE G a true env dr).bind fun x dr => .ok (!isNone x) dr
  | .call f es, env, dr => (evL G es env dr).bind fun ds dr => match G.fns f with
    | some g => (g ds dr).bind fun x dr => ofO x.tru dr
    | none => .bad
  | .blt f es, env, dr => (evLp G es env dr).bind fun ds dr => (ofO (bltD f ds) dr).bind fun x dr => ofO x.tru dr
  | .isi a t, env, dr => (evE G a true env dr).bind fun x dr => ofO (isiD t x) dr
  | .var i, env, dr => (ofO (varP (get env i)) dr).bind fun x dr => ofO x.tru dr
  | .ix a i, env, dr => (evE G a true env dr).bind fun x dr => (evE G i true env dr).bind fun y dr => (ofO (ixD x y) dr).bind fun x dr => ofO x.tru dr
  | _, _, _ => .bad
def evTs (G : Cfg) : CE → Env → List Int → Res Bool
  | .nil, _, dr => .ok true dr
  | .cons c .nil, env, dr => evT G c env dr
  | _, _, _ => .bad
def evTand (G : Cfg) : CE → Env → List Int → Res Bool
  | .cons c .nil, env, dr => evT G c env dr
  | .cons c cs, env, dr => (evT G c env dr).bind fun b dr => match b with
    | true => evTand G cs env dr
    | false => .ok false dr
  | _, _, _ => .bad
def evTor (G : Cfg) : CE → Env → List Int → Res Bool
  | .cons c .nil, env, dr => evT G c env dr
  | .cons c cs, env, dr => (evT G c env dr).bind fun b dr => match b with
    | true => .ok true dr
    | false => evTor G cs env dr
  | _, _, _ => .bad
/-- and, or as values: all but the last a truth value -/
def evAnd (G : Cfg) : CE → Env → List Int → Res D
  | .cons c .nil, env, dr => evE G c false env dr
  | .cons c cs, env, dr => (evE G c true env dr).bind fun x dr => match x with
    | .bl true => evAnd G cs env dr
    | .bl false => .ok (.bl false) dr
    | _ => .bad
  | _, _, _ => .bad
def evOr (G : Cfg) : CE → Env → List Int → Res D
  | .cons c .nil, env, dr => evE G c false env dr
  | .cons c cs, env, dr => (evE G c true env dr).bind fun x dr => match x with
    | .bl true => .ok (.bl true) dr
    | .bl false => evOr G cs env dr
    | _ => .bad
  | _, _, _ => .bad
def evL (G : Cfg) : CE → Env → List Int → Res (List D)
  | .nil, _, dr => .ok [] dr
  | .cons e es, env, dr => (evE G e false env dr).bind fun d dr => (evL G es env dr).bind fun ds dr => .ok (d :: ds) dr
  | .scons e es, env, dr => (evE G e true env dr).bind fun d dr => (ofO (seqD d) dr).bind fun xs dr => (evL G es env dr).bind fun ds dr => .ok (xs ++ ds) dr
  | _, _, _ => .bad
def evLp (G : Cfg) : CE → Env → List Int → Res (List D)
  | .nil, _, dr => .ok [] dr
  | .cons e es, env, dr => (evE G e true env dr).bind fun d dr => (evLp G es env dr).bind fun ds dr => .ok (d :: ds) dr
  | _, _, _ => .bad
def evO (G : Cfg) : CE → Env → List Int → Res (Option Int)
  | .nil, _, dr => .ok none dr
  | .cons e .nil, env, dr => (evE G e true env dr).bind fun d dr => ofO (match d with
    | .int i => some (some i)
    | _ => none) dr
  | _, _, _ => .bad
/-- what is walked -/
def evI (G : Cfg) : CE → Bool → Env → List Int → Res (List D)
  | .rng es, _, env, dr => (evLp G es env dr).bind fun ds dr => ofO (rngD ds) dr
  | .enum a, pk, env, dr => (evE G a pk env dr).bind fun d dr => ofO ((iterD d).map (enumL 0)) dr
  | .zip a b, pk, env, dr => (evE G a pk env dr).bind fun d dr => (evE G b pk env dr).bind fun e dr => ofO (match iterD d, iterD e with
    | some xs, some ys => some (zipL xs ys)
    | _, _ => none) dr
  | .items a, _, env, dr => (evE G a false env dr).bind fun d dr => ofO (itemsD d) dr
  | .vals a, _, env, dr => (evE G a false env dr).bind fun d dr => ofO (valsD d) dr
  | .keys a, _, env, dr => (evE G a false env dr).bind fun d dr => ofO (keysD d) dr
  | .cons e .nil, pk, env, dr => (evE G e pk env dr).bind fun d dr => ofO (iterD d) dr
  | _, _, _, _ => .bad
end

inductive Fl where
  | nx (env : Env)
  | rt (d : D)
  | bk (env : Env)
  | ct (env : Env)

/-- a loop's turns -/
def forL (b : D → Env → List Int → Res Fl) : List D → Env → List Int → Res Fl
  | [], env, dr => .ok (.nx env) dr
  | d :: ds, env, dr => (b d env dr).bind fun f dr => match f with
    | .nx env => forL b ds env dr
    | .ct env => forL b ds env dr
    | .bk env => .ok (.nx env) dr
    | .rt d => .ok (.rt d) dr
def whlL (c : Env → List Int → Res Bool) (b : Env → List Int → Res Fl) : Nat → Env → List Int → Res Fl
  | 0, _, _ => .bad
  | n + 1, env, dr => (c env dr).bind fun t dr => match t with
    | false => .ok (.nx env) dr
    | true => (b env dr).bind fun f dr => match f with
      | .nx env => whlL c b n env dr
      | .ct env => whlL c b n env dr
      | .bk env => .ok (.nx env) dr
      | .rt d => .ok (.rt d) dr
def setSl (env : Env) (i : Nat) (s : Sl) : Option Env := if i < env.length then some (env.set i s) else none
/-- a new object, as a slot's own -/
def freshD : D → Option D
  | .lst ds => some (.lst ds)
  | .dicK ks ds => some (.dicK ks ds)
  | .dicT ks ds => some (.dicT ks ds)
  | _ => none
def appS : Sl → D → Option Sl
  | .own (.lst ds), d => grd (decide (ds.length < sizeLine)) (.own (.lst (ds ++ [d])))
  | _, _ => none
def extS : Sl → D → Option Sl
  | .own (.lst ds), .lst es => grd (szOk (ds.length + es.length)) (.own (.lst (ds ++ es)))
  | _, _ => none
def setS : Sl → D → D → Option Sl
  | .own (.lst ds), .int i, d => (L2.ixN ds.length i).map fun j => .own (.lst (ds.set j d))
  | .own (.dicK ks ds), k, d => match k.key with
    | some k => grd (decide (ks.length < sizeLine)) (let r := putKs ks ds k d; .own (.dicK r.1 r.2))
    | none => none
  | .own (.dicT ks ds), .tup es, d => match keysOf es with
    | some k => grd (decide (ks.length < sizeLine)) (let r := putKs ks ds k d; .own (.dicT r.1 r.2))
    | none => none
  | _, _, _ => none
def lstD : D → Option (List D)
  | .lst ds => some ds
  | _ => none
def slD? : Sl → Option D
  | .own d => some d
  | _ => none
def popS : Sl → Option (D × Sl)
  | .own (.lst ds) => match ds.getLast? with
    | some d => some (d, .own (.lst ds.dropLast))
    | none => none
  | _ => none
def popDS : Sl → D → Option (D × Sl)
  | .own (.dicK ks ds), k => match k.key with
    | some k => (lookK ks ds k).map fun v => let r := dropKs ks ds k; (v, .own (.dicK r.1 r.2))
    | none => none
  | _, _ => none
def frzS : Sl → Option Sl
  | .own d => some (.val d)
  | .val d => some (.val d)
  | _ => none
def setAll (env : Env) : List (Nat × Bool) → List D → Option Env
  | [], [] => some env
  | (i, o) :: is, d :: ds => (setSl env i (if o then .own d else .val d)).bind fun env => setAll env is ds
  | _, _ => none
/-- a row of values, some of them new objects -/
def evLo (G : Cfg) : List (Nat × Bool) → CE → Env → List Int → Res (List D)
  | [], .nil, _, dr => .ok [] dr
  | (_, o) :: is, .cons e es, env, dr => (evE G e false env dr).bind fun d dr => (ofO (if o then freshD d else some d) dr).bind fun d dr => (evLo G is es env dr).bind fun ds dr => .ok (d :: ds) dr
  | _, _, _, _ => .bad
def evB (G : Cfg) : CS → Env → List Int → Res Fl
  | .done, env, dr => .ok (.nx env) dr
  | .ex e k, env, dr => (evE G e false env dr).bind fun _ dr => evB G k env dr
  | .asg p e k, env, dr => (evE G e false env dr).bind fun d dr => (ofO (asgP p d env) dr).bind fun env dr => evB G k env dr
  | .own i e k, env, dr => (evE G e false env dr).bind fun d dr => (ofO ((freshD d).bind fun d => setSl env i (.own d)) dr).bind fun env dr => evB G k env dr
  | .par i j a b k, env, dr => (evE G a false env dr).bind fun x dr => (evE G b false env dr).bind fun y dr => (ofO ((setSl env i (.val x)).bind fun env => setSl env j (.val y)) dr).bind fun env dr => evB G k env dr
  | .par3 i j l a b c k, env, dr => (evE G a false env dr).bind fun x dr => (evE G b false env dr).bind fun y dr => (evE G c false env dr).bind fun z dr =>
    (ofO ((setSl env i (.val x)).bind fun env => (setSl env j (.val y)).bind fun env => setSl env l (.val z)) dr).bind fun env dr => evB G k env dr
  | .aug i op e k, env, dr => (ofO (varS (get env i)) dr).bind fun x dr => (evE G e false env dr).bind fun y dr => (ofO ((augD op x y).bind fun z => setSl env i (.val z)) dr).bind fun env dr => evB G k env dr
  | .app i e k, env, dr => match get env i with
    | .own (.lst ds) => (evE G e false env dr).bind fun d dr => (ofO (grd (decide (ds.length < sizeLine)) (env.set i (.own (.lst (ds ++ [d]))))) dr).bind fun env dr => evB G k env dr
    | _ => .bad
  | .ext i e k, env, dr => (ofO (slD? (get env i)) dr).bind fun o dr => (ofO (lstD o) dr).bind fun _ dr => (evE G e false env dr).bind fun d dr => (ofO ((extS (get env i) d).bind (setSl env i)) dr).bind fun env dr => evB G k env dr
  | .setI i x e k, env, dr => (evE G e false env dr).bind fun d dr => (ofO (slD? (get env i)) dr).bind fun _ dr => (evE G x true env dr).bind fun y dr => (ofO ((setS (get env i) y d).bind (setSl env i)) dr).bind fun env dr => evB G k env dr
  | .augI i op x e k, env, dr => (evE G x true env dr).bind fun y dr => (ofO ((slD? (get env i)).bind fun o => ixD o y) dr).bind fun u dr => (evE G e false env dr).bind fun w dr =>
    (ofO ((augD op u w).bind fun d => (setS (get env i) y d).bind (setSl env i)) dr).bind fun env dr => evB G k env dr
  | .popS p i k, env, dr => (ofO (popS (get env i)) dr).bind fun q dr => (ofO ((setSl env i q.2).bind fun env => asgP p q.1 env) dr).bind fun env dr => evB G k env dr
  | .popD p i x k, env, dr => (evE G x true env dr).bind fun y dr => (ofO (popDS (get env i) y) dr).bind fun q dr => (ofO ((setSl env i q.2).bind fun env => asgP p q.1 env) dr).bind fun env dr => evB G k env dr
  | .wip i k, env, dr => evB G k (env.set i .no) dr
  | .parO is es k, env, dr => (evLo G is es env dr).bind fun ds dr => (ofO (setAll env is ds) dr).bind fun env dr => evB G k env dr
  | .frz i k, env, dr => (ofO ((frzS (get env i)).bind (setSl env i)) dr).bind fun env dr => evB G k env dr
  | .ifs c a b k, env, dr => (evT G c env dr).bind fun t dr => (match t with
    | true => evB G a env dr
    | false => evB G b env dr).bind fun f dr => match f with
      | .nx env => evB G k env dr
      | f => .ok f dr
  | .for_ p it body k, env, dr => (evI G it false env dr).bind fun xs dr => (forL (fun d env dr => (ofO (asgP p d env) dr).bind fun env dr => evB G body env dr) xs env dr).bind fun f dr => match f with
      | .nx env => evB G k env dr
      | f => .ok f dr
  | .whl c body k, env, dr => (whlL (evT G c) (evB G body) G.fuel env dr).bind fun f dr => match f with
      | .nx env => evB G k env dr
      | f => .ok f dr
  | .brk, env, dr => .ok (.bk env) dr
  | .cnt, env, dr => .ok (.ct env) dr
  | .ret e, env, dr => (evE G e false env dr).bind fun d dr => .ok (.rt d) dr
  | .ret0, _, dr => .ok (.rt .non) dr
  | .rse x .nil, _, dr => .exc ⟨x, none⟩ dr
  | .rse x (.cons e .nil), env, dr => (evE G e false env dr).bind fun d dr => .exc ⟨x, some d⟩ dr
  | .rse _ _, _, _ => .bad
  | .tryF x f _ body k, env, dr => match evB G body env dr with
    | .bad => .bad
    | .exc e dr => match G.sub e.cls x with
      | some true => if e.at_.isNone then (ofO (G.flg f e.cls) dr).bind fun d dr => .ok (.rt d) dr else .bad
      | some false => .exc e dr
      | none => .bad
    | .ok f dr => match f with
      | .nx env => evB G k env dr
      | f => .ok f dr
  | .forD p i body k, env, dr => match get env i with
    | .val .drw => (forL (fun d env dr => ((ofO (asgP p d env) dr).bind fun env dr => evB G body env dr).bind fun f dr2 => if dr2 = dr then .ok f dr2 else .bad) (dr.reverse.map .int) env dr).bind fun f dr => match f with
      | .nx env => evB G k env dr
      | f => .ok f dr
    | _ => .bad
  | .dead, _, _ => .bad
/-- a def called: n names -/
def callD (G : Cfg) (n : Nat) (body : CS) (args : List D) (dr : List Int) : Res D :=
  if args.length ≤ n then (evB G body (args.map .val ++ List.replicate (n - args.length) .no) dr).bind fun f dr => match f with
    | .rt d => .ok d dr
    | .nx _ => .ok .non dr
    | _ => .bad
  else .bad
end Cr
/-! How the trees stand in the heap. -/
namespace Cr
open PySem PySem.Spec PyProof.Rows L2

/-- what the trees lean on: the written part, the module's names, where the row of draws stands -/
structure Gd where
  K : PySem.W.Frag
  mg : Str → Option Value
  ad : Option Addr

mutual
def Rep (g : Gd) (F : Hp) : D → V → Prop
  | .non, v => v = .non
  | .bl b, v => v = .bl b
  | .int i, v => v = .int i
  | .str s, v => v = .str s
  | .tup ds, v => ds.length ≤ sizeLine ∧ ∃ a vs, v = .ref a ∧ F a = some (.tup vs) ∧ Reps g F ds vs
  | .lst ds, v => ds.length ≤ sizeLine ∧ ∃ a vs, v = .ref a ∧ F a = some (.lst vs) ∧ Reps g F ds vs
  | .dicK ks ds, v => ks.Nodup ∧ ks.length ≤ sizeLine ∧ ks.length = ds.length ∧ ∃ a vs od, v = .ref a ∧ F a = some (.frz od (.dK (ks.zip vs))) ∧ Reps g F ds vs
  | .dicT ks ds, v => ks.Nodup ∧ ks.length ≤ sizeLine ∧ ks.length = ds.length ∧ ∃ a vs od, v = .ref a ∧ F a = some (.frz od (.dT (ks.zip vs))) ∧ Reps g F ds vs
  | .fn x, v => ∃ a, v = .ref a ∧ g.mg x = some (.ref a)
  | .drw, v => ∃ a, g.ad = some a ∧ v = .ref a
  | .ilst is, v => is.length ≤ sizeLine ∧ ∃ a, v = .ref a ∧ SqL g.K F a (is.map V.int)
def Reps (g : Gd) (F : Hp) : List D → List V → Prop
  | [], vs => vs = []
  | d :: ds, vs => ∃ w ws, vs = w :: ws ∧ Rep g F d w ∧ Reps g F ds ws
end

/-- F's objects stand in H -/
abbrev Sub (F H : Hp) : Prop := Same F H

theorem sqL_sub {K : PySem.W.Frag} {F H : Hp} {a : Addr} {xs : List V} (e : Sub F H) (h : SqL K F a xs) : SqL K H a xs := by
  rcases h with (h | ⟨o, h⟩) | h
  · exact .inl (.inl (e _ _ h))
  · exact .inl (.inr ⟨o, e _ _ h⟩)
  · exact .inr h
theorem sqT_sub {K : PySem.W.Frag} {F H : Hp} {a : Addr} {xs : List V} (e : Sub F H) (h : SqT K F a xs) : SqT K H a xs := by
  rcases h with (h | ⟨o, h⟩) | h
  · exact .inl (.inl (e _ _ h))
  · exact .inl (.inr ⟨o, e _ _ h⟩)
  · exact .inr h

mutual
theorem Rep.mono {g : Gd} {F F' : Hp} (e : Sub F F') : ∀ (d : D) (v : V), Rep g F d v → Rep g F' d v
  | .non, _, h => h
  | .bl _, _, h => h
  | .int _, _, h => h
  | .str _, _, h => h
  | .tup ds, v, h => by
    obtain ⟨l, a, vs, r, s, t⟩ := h
    exact ⟨l, a, vs, r, e _ _ s, Reps.mono e ds vs t⟩
  | .lst ds, v, h => by
    obtain ⟨l, a, vs, r, s, t⟩ := h
    exact ⟨l, a, vs, r, e _ _ s, Reps.mono e ds vs t⟩
  | .dicK ks ds, v, h => by
    obtain ⟨n, l, l2, a, vs, od, r, s, t⟩ := h
    exact ⟨n, l, l2, a, vs, od, r, e _ _ s, Reps.mono e ds vs t⟩
  | .dicT ks ds, v, h => by
    obtain ⟨n, l, l2, a, vs, od, r, s, t⟩ := h
    exact ⟨n, l, l2, a, vs, od, r, e _ _ s, Reps.mono e ds vs t⟩
  | .fn _, _, h => h
  | .drw, _, h => h
  | .ilst is, v, h => by
    obtain ⟨l, a, e1, h1⟩ := h
    exact ⟨l, a, e1, sqL_sub e h1⟩
theorem Reps.mono {g : Gd} {F F' : Hp} (e : Sub F F') : ∀ (ds : List D) (vs : List V), Reps g F ds vs → Reps g F' ds vs
  | [], _, h => h
  | d :: ds, vs, h => by
    obtain ⟨w, ws, r, s, t⟩ := h
    exact ⟨w, ws, r, Rep.mono e d w s, Reps.mono e ds ws t⟩
end
section
variable {g : Gd} {F H : Hp}
theorem Reps.nil : Reps g F [] [] := rfl
theorem Reps.cons {d : D} {ds : List D} {v : V} {vs : List V} (h : Rep g F d v) (t : Reps g F ds vs) : Reps g F (d :: ds) (v :: vs) := ⟨v, vs, rfl, h, t⟩
theorem Reps.len : ∀ {ds : List D} {vs : List V}, Reps g F ds vs → vs.length = ds.length
  | [], _, h => by cases (show _ = [] from h); rfl
  | d :: ds, _, h => by
    obtain ⟨w, ws, rfl, _, t⟩ := h
    simp only [List.length_cons, Reps.len t]
theorem Reps.get : ∀ {ds : List D} {vs : List V} {i : Nat} {d : D}, Reps g F ds vs → ds[i]? = some d → ∃ v, vs[i]? = some v ∧ Rep g F d v
  | [], _, i, _, _, e => by simp at e
  | d :: ds, _, 0, d', h, e => by
    obtain ⟨w, ws, rfl, r, t⟩ := h
    have e' : d = d' := Option.some.inj e
    subst e'
    exact ⟨w, rfl, r⟩
  | d :: ds, _, i + 1, d', h, e => by
    obtain ⟨w, ws, rfl, r, t⟩ := h
    obtain ⟨v, e1, r1⟩ := Reps.get (i := i) t (by simpa using e)
    exact ⟨v, by simpa using e1, r1⟩
theorem Reps.get2 : ∀ {ds : List D} {vs : List V} {i : Nat} {v : V}, Reps g F ds vs → vs[i]? = some v → ∃ d, ds[i]? = some d ∧ Rep g F d v := by
  intro ds vs i v h e
  have hl := h.len
  have hi : i < vs.length := (List.getElem?_eq_some_iff.mp e).1
  have : i < ds.length := by omega
  obtain ⟨v', e', r⟩ := h.get (List.getElem?_eq_getElem this)
  rw [e] at e'
  cases e'
  exact ⟨_, List.getElem?_eq_getElem this, r⟩
theorem Reps.app : ∀ {ds es : List D} {vs ws : List V}, Reps g F ds vs → Reps g F es ws → Reps g F (ds ++ es) (vs ++ ws)
  | [], _, _, _, h, t => by cases (show _ = [] from h); exact t
  | d :: ds, _, _, _, h, t => by
    obtain ⟨w, ws, rfl, r, s⟩ := h
    exact ⟨w, _, rfl, r, Reps.app s t⟩
theorem Reps.snoc {ds : List D} {vs : List V} {d : D} {v : V} (h : Reps g F ds vs) (r : Rep g F d v) : Reps g F (ds ++ [d]) (vs ++ [v]) := h.app (Reps.cons r Reps.nil)
theorem Reps.take : ∀ {ds : List D} {vs : List V} (n : Nat), Reps g F ds vs → Reps g F (ds.take n) (vs.take n)
  | [], _, n, h => by cases (show _ = [] from h); simp; rfl
  | d :: ds, _, 0, h => by simp; rfl
  | d :: ds, _, n + 1, h => by
    obtain ⟨w, ws, rfl, r, s⟩ := h
    simp only [List.take_succ_cons]
    exact Reps.cons r (Reps.take n s)
theorem Reps.drop : ∀ {ds : List D} {vs : List V} (n : Nat), Reps g F ds vs → Reps g F (ds.drop n) (vs.drop n)
  | [], _, n, h => by cases (show _ = [] from h); simp; rfl
  | d :: ds, _, 0, h => h
  | d :: ds, _, n + 1, h => by
    obtain ⟨w, ws, rfl, r, s⟩ := h
    simp only [List.drop_succ_cons]
    exact Reps.drop n s
theorem Reps.rev : ∀ {ds : List D} {vs : List V}, Reps g F ds vs → Reps g F ds.reverse vs.reverse
  | [], _, h => by cases (show _ = [] from h); simp; rfl
  | d :: ds, _, h => by
    obtain ⟨w, ws, rfl, r, s⟩ := h
    simp only [List.reverse_cons]
    exact Reps.snoc (Reps.rev s) r
theorem Reps.set : ∀ {ds : List D} {vs : List V} {d : D} {v : V} (j : Nat), Reps g F ds vs → Rep g F d v → Reps g F (ds.set j d) (vs.set j v)
  | [], _, _, _, j, h, _ => by cases (show _ = [] from h); simp; rfl
  | x :: ds, _, _, _, 0, h, r => by
    obtain ⟨w, ws, rfl, _, s⟩ := h
    exact Reps.cons r s
  | x :: ds, _, _, _, j + 1, h, r => by
    obtain ⟨w, ws, rfl, q, s⟩ := h
    simp only [List.set_cons_succ]
    exact Reps.cons q (Reps.set j s r)
theorem Reps.rep {ds : List D} {vs : List V} (h : Reps g F ds vs) : ∀ n : Nat, Reps g F (List.replicate n ds).flatten (List.replicate n vs).flatten
  | 0 => by simp; rfl
  | n + 1 => by
    rw [List.replicate_succ, List.replicate_succ, List.flatten_cons, List.flatten_cons]
    exact h.app (Reps.rep h n)
theorem Reps.ints : ∀ {ds : List D} {vs : List V} {is : List Int}, Reps g F ds vs → intsOf ds = some is → vs = is.map V.int
  | [], _, is, h, e => by
    cases (show _ = [] from h)
    cases (show some [] = some is from e)
    rfl
  | .int i :: ds, _, is, h, e => by
    obtain ⟨w, ws, rfl, r, s⟩ := h
    cases (show w = V.int i from r)
    have e' : (intsOf ds).map (i :: ·) = some is := e
    cases q : intsOf ds with
    | none => rw [q] at e'; cases e'
    | some js =>
      rw [q] at e'
      cases e'
      rw [Reps.ints s q]
      rfl
  | .non :: _, _, _, _, e => by cases e
  | .bl _ :: _, _, _, _, e => by cases e
  | .str _ :: _, _, _, _, e => by cases e
  | .tup _ :: _, _, _, _, e => by cases e
  | .lst _ :: _, _, _, _, e => by cases e
  | .dicK _ _ :: _, _, _, _, e => by cases e
  | .dicT _ _ :: _, _, _, _, e => by cases e
  | .fn _ :: _, _, _, _, e => by cases e
  | .drw :: _, _, _, _, e => by cases e
  | .ilst _ :: _, _, _, _, e => by cases e
theorem Reps.strs : ∀ {ds : List D} {vs : List V} {is : List Str}, Reps g F ds vs → strsOf ds = some is → vs = is.map V.str
  | [], _, is, h, e => by
    cases (show _ = [] from h)
    cases (show some [] = some is from e)
    rfl
  | .str i :: ds, _, is, h, e => by
    obtain ⟨w, ws, rfl, r, s⟩ := h
    cases (show w = V.str i from r)
    have e' : (strsOf ds).map (i :: ·) = some is := e
    cases q : strsOf ds with
    | none => rw [q] at e'; cases e'
    | some js =>
      rw [q] at e'
      cases e'
      rw [Reps.strs s q]
      rfl
  | .non :: _, _, _, _, e => by cases e
  | .bl _ :: _, _, _, _, e => by cases e
  | .int _ :: _, _, _, _, e => by cases e
  | .tup _ :: _, _, _, _, e => by cases e
  | .lst _ :: _, _, _, _, e => by cases e
  | .dicK _ _ :: _, _, _, _, e => by cases e
  | .dicT _ _ :: _, _, _, _, e => by cases e
  | .fn _ :: _, _, _, _, e => by cases e
  | .drw :: _, _, _, _, e => by cases e
  | .ilst _ :: _, _, _, _, e => by cases e
theorem Reps.bls : ∀ {ds : List D} {vs : List V} {is : List Bool}, Reps g F ds vs → blsOf ds = some is → vs = is.map V.bl
  | [], _, is, h, e => by
    cases (show _ = [] from h)
    cases (show some [] = some is from e)
    rfl
  | .bl i :: ds, _, is, h, e => by
    obtain ⟨w, ws, rfl, r, s⟩ := h
    cases (show w = V.bl i from r)
    have e' : (blsOf ds).map (i :: ·) = some is := e
    cases q : blsOf ds with
    | none => rw [q] at e'; cases e'
    | some js =>
      rw [q] at e'
      cases e'
      rw [Reps.bls s q]
      rfl
  | .non :: _, _, _, _, e => by cases e
  | .str _ :: _, _, _, _, e => by cases e
  | .int _ :: _, _, _, _, e => by cases e
  | .tup _ :: _, _, _, _, e => by cases e
  | .lst _ :: _, _, _, _, e => by cases e
  | .dicK _ _ :: _, _, _, _, e => by cases e
  | .dicT _ _ :: _, _, _, _, e => by cases e
  | .fn _ :: _, _, _, _, e => by cases e
  | .drw :: _, _, _, _, e => by cases e
  | .ilst _ :: _, _, _, _, e => by cases e
theorem repInts (is : List Int) : Reps g F (is.map .int) (is.map V.int) := by
  induction is with
  | nil => rfl
  | cons i r ih => exact Reps.cons rfl ih
end
mutual
theorem Rep.dp {g : Gd} {F H : Hp} (e : Sub F H) : ∀ (d : D) (v : V) (p : PyData), Rep g F d v → d.py = some p → Dp g.K H v p
  | .non, _, p, h, q => by
    cases (show some PyData.none = some p from q)
    rw [show _ = V.non from h]
    exact .non
  | .bl b, _, p, h, q => by
    cases (show some (PyData.bool b) = some p from q)
    rw [show _ = V.bl b from h]
    exact .bl b
  | .int b, _, p, h, q => by
    cases (show some (PyData.int b) = some p from q)
    rw [show _ = V.int b from h]
    exact .int b
  | .str b, _, p, h, q => by
    cases (show some (PyData.str b) = some p from q)
    rw [show _ = V.str b from h]
    exact .str b
  | .tup ds, _, p, h, q => by
    have q' : (D.pys ds).map PyData.tuple = some p := q
    cases r : D.pys ds with
    | none => rw [r] at q'; cases q'
    | some ps =>
      rw [r] at q'
      cases q'
      obtain ⟨l, a, vs, rfl, s, t⟩ := h
      exact .tup (.inl (.inl (e _ _ s))) (Reps.dp e ds vs ps t r)
  | .lst ds, _, p, h, q => by
    have q' : (D.pys ds).map PyData.list = some p := q
    cases r : D.pys ds with
    | none => rw [r] at q'; cases q'
    | some ps =>
      rw [r] at q'
      cases q'
      obtain ⟨l, a, vs, rfl, s, t⟩ := h
      exact .lst (.inl (.inl (e _ _ s))) (Reps.dp e ds vs ps t r)
  | .dicK _ _, _, p, _, q => by cases (show none = some p from q)
  | .dicT _ _, _, p, _, q => by cases (show none = some p from q)
  | .fn _, _, p, _, q => by cases (show none = some p from q)
  | .drw, _, p, _, q => by cases (show none = some p from q)
  | .ilst _, _, p, _, q => by cases (show none = some p from q)
theorem Reps.dp {g : Gd} {F H : Hp} (e : Sub F H) : ∀ (ds : List D) (vs : List V) (ps : List PyData), Reps g F ds vs → D.pys ds = some ps → DpAll g.K H vs ps
  | [], vs, ps, h, q => by
    cases (show some [] = some ps from q)
    rw [show vs = [] from h]
    exact .nil
  | d :: ds, vs, ps, h, q => by
    obtain ⟨w, ws, rfl, r, s⟩ := h
    have q' : (match d.py, D.pys ds with | some p, some ps => some (p :: ps) | _, _ => none) = some ps := q
    cases e1 : d.py with
    | none => rw [e1] at q'; cases q'
    | some p1 =>
      cases e2 : D.pys ds with
      | none => rw [e1, e2] at q'; cases q'
      | some p2 =>
        rw [e1, e2] at q'
        cases q'
        exact .cons (Rep.dp e d w p1 r e1) (Reps.dp e ds ws p2 s e2)
end

/-- a container at p that the frame alone knows -/
def OwnR (g : Gd) (F H : Hp) (p : Addr) : D → Prop
  | .lst ds => ds.length ≤ sizeLine ∧ ∃ vs, H p = some (.lst vs) ∧ Reps g F ds vs
  | .dicK ks ds => ks.Nodup ∧ ks.length ≤ sizeLine ∧ ks.length = ds.length ∧ ∃ vs, H p = some (.dK (ks.zip vs)) ∧ Reps g F ds vs
  | .dicT ks ds => ks.Nodup ∧ ks.length ≤ sizeLine ∧ ks.length = ds.length ∧ ∃ vs, H p = some (.dT (ks.zip vs)) ∧ Reps g F ds vs
  | _ => False
theorem OwnR.mono {g : Gd} {F F' H H' : Hp} {p : Addr} {d : D} (e : Sub F F') (k : ∀ o, H p = some o → H' p = some o) (h : OwnR g F H p d) : OwnR g F' H' p d := by
  cases d with
  | lst ds =>
    obtain ⟨l, vs, a, r⟩ := h
    exact ⟨l, vs, k _ a, Reps.mono e _ _ r⟩
  | dicK ks ds =>
    obtain ⟨n, l, l2, vs, a, r⟩ := h
    exact ⟨n, l, l2, vs, k _ a, Reps.mono e _ _ r⟩
  | dicT ks ds =>
    obtain ⟨n, l, l2, vs, a, r⟩ := h
    exact ⟨n, l, l2, vs, k _ a, Reps.mono e _ _ r⟩
  | _ => exact h
theorem OwnR.there {g : Gd} {F H : Hp} {p : Addr} {d : D} (h : OwnR g F H p d) : ∃ o, H p = some o := by
  cases d with
  | lst ds => obtain ⟨l, vs, a, r⟩ := h; exact ⟨_, a⟩
  | dicK ks ds => obtain ⟨n, l, l2, vs, a, r⟩ := h; exact ⟨_, a⟩
  | dicT ks ds => obtain ⟨n, l, l2, vs, a, r⟩ := h; exact ⟨_, a⟩
  | _ => exact False.elim h
/-- it becomes known to all -/
theorem OwnR.rep {g : Gd} {F F' H : Hp} {p : Addr} {ds : List D} (h : OwnR g F H p (.lst ds)) (e : Sub F F') (k : ∀ o, H p = some o → F' p = some o) : Rep g F' (.lst ds) (.ref p) := by
  obtain ⟨l, vs, a, r⟩ := h
  exact ⟨l, p, vs, rfl, k _ a, Reps.mono e _ _ r⟩

def RepQ (g : Gd) (pk : Bool) (F H : Hp) (d : D) (v : V) : Prop := Rep g F d v ∨ (pk = true ∧ ∃ p, v = .ref p ∧ some p ≠ g.ad ∧ OwnR g F H p d)
theorem RepQ.rep {g : Gd} {F H : Hp} {d : D} {v : V} (h : RepQ g false F H d v) : Rep g F d v := by
  rcases h with h | ⟨h, _⟩
  · exact h
  · cases h
section
variable {g : Gd} {pk : Bool} {F H : Hp} {v : V}
theorem rq_lst {ds : List D} (h : RepQ g pk F H (.lst ds) v) (s : Sub F H) : ∃ p vs, v = .ref p ∧ H p = some (.lst vs) ∧ Reps g F ds vs ∧ ds.length ≤ sizeLine := by
  rcases h with ⟨l, a, vs, rfl, k, r⟩ | ⟨_, p, rfl, _, l, vs, k, r⟩
  · exact ⟨a, vs, rfl, s _ _ k, r, l⟩
  · exact ⟨p, vs, rfl, k, r, l⟩
theorem rq_ilst {is : List Int} (h : RepQ g pk F H (.ilst is) v) (s : Sub F H) : ∃ p, v = .ref p ∧ SqL g.K H p (is.map V.int) ∧ is.length ≤ sizeLine := by
  rcases h with ⟨l, a, rfl, k⟩ | ⟨_, p, rfl, _, z⟩
  · exact ⟨a, rfl, sqL_sub s k, l⟩
  · exact z.elim
theorem rq_tup {ds : List D} (h : RepQ g pk F H (.tup ds) v) (s : Sub F H) : ∃ p vs, v = .ref p ∧ H p = some (.tup vs) ∧ Reps g F ds vs ∧ ds.length ≤ sizeLine := by
  rcases h with ⟨l, a, vs, rfl, k, r⟩ | ⟨_, p, rfl, _, z⟩
  · exact ⟨a, vs, rfl, s _ _ k, r, l⟩
  · exact z.elim
theorem rq_int {i : Int} (h : RepQ g pk F H (.int i) v) : v = .int i := by
  rcases h with h | ⟨_, p, rfl, _, z⟩
  · exact h
  · exact z.elim
theorem rq_bl {i : Bool} (h : RepQ g pk F H (.bl i) v) : v = .bl i := by
  rcases h with h | ⟨_, p, rfl, _, z⟩
  · exact h
  · exact z.elim
theorem rq_str {i : Str} (h : RepQ g pk F H (.str i) v) : v = .str i := by
  rcases h with h | ⟨_, p, rfl, _, z⟩
  · exact h
  · exact z.elim
theorem rq_non (h : RepQ g pk F H .non v) : v = .non := by
  rcases h with h | ⟨_, p, rfl, _, z⟩
  · exact h
  · exact z.elim
theorem rq_fn {x : Str} (h : RepQ g pk F H (.fn x) v) : ∃ a, v = .ref a ∧ g.mg x = some (.ref a) := by
  rcases h with h | ⟨_, p, rfl, _, z⟩
  · exact h
  · exact z.elim
theorem rq_dicK {ks : List L2.Key} {ds : List D} (h : RepQ g pk F H (.dicK ks ds) v) (s : Sub F H) : ∃ p vs, v = .ref p ∧ Rd H p (.dK (ks.zip vs)) ∧ Reps g F ds vs ∧ ks.Nodup ∧ ks.length ≤ sizeLine ∧ ks.length = ds.length := by
  rcases h with ⟨n, l, l2, a, vs, od, rfl, k, r⟩ | ⟨_, p, rfl, _, n, l, l2, vs, k, r⟩
  · exact ⟨a, vs, rfl, .inr ⟨od, s _ _ k⟩, r, n, l, l2⟩
  · exact ⟨p, vs, rfl, .inl k, r, n, l, l2⟩
theorem rq_dicT {ks : List (List L2.Key)} {ds : List D} (h : RepQ g pk F H (.dicT ks ds) v) (s : Sub F H) : ∃ p vs, v = .ref p ∧ Rd H p (.dT (ks.zip vs)) ∧ Reps g F ds vs ∧ ks.Nodup ∧ ks.length ≤ sizeLine ∧ ks.length = ds.length := by
  rcases h with ⟨n, l, l2, a, vs, od, rfl, k, r⟩ | ⟨_, p, rfl, _, n, l, l2, vs, k, r⟩
  · exact ⟨a, vs, rfl, .inr ⟨od, s _ _ k⟩, r, n, l, l2⟩
  · exact ⟨p, vs, rfl, .inl k, r, n, l, l2⟩
theorem rq_dp {d : D} {p : PyData} (h : RepQ g pk F H d v) (s : Sub F H) (e : d.py = some p) : Dp g.K H v p := by
  rcases h with h | ⟨_, a, rfl, _, z⟩
  · exact Rep.dp s d v p h e
  · cases d with
    | lst ds =>
      obtain ⟨l, vs, k, r⟩ := z
      have q' : (D.pys ds).map PyData.list = some p := e
      cases r2 : D.pys ds with
      | none => rw [r2] at q'; cases q'
      | some ps =>
        rw [r2] at q'
        cases q'
        exact .lst (.inl (.inl k)) (Reps.dp s ds vs ps r r2)
    | dicK _ _ => cases e
    | dicT _ _ => cases e
    | _ => exact z.elim
end

/-! ### steps -/
/-- from (F, H) to (F', H'): what was known stays; the row of draws is dr' -/
structure Post (g : Gd) (F H F' H' : Hp) (dr' : List Int) : Prop where
  f : Sub F F'
  s : Sub F' H'
  old : ∀ b o, H b = some o → some b ≠ g.ad → H' b = some o
  new : ∀ b, F' b ≠ none → F b ≠ none ∨ H b = none
  fd : ∀ a, g.ad = some a → F' a = none
  dr : ∀ a, g.ad = some a → H' a = some (.lst (dr'.reverse.map V.int))
section
variable {g : Gd} {F H F1 H1 F2 H2 : Hp} {dr dr1 dr2 : List Int}
theorem Post.trans (a : Post g F H F1 H1 dr1) (b : Post g F1 H1 F2 H2 dr2) : Post g F H F2 H2 dr2 where
  f := a.f.trans b.f
  s := b.s
  old := fun c o h n => b.old c o (a.old c o h n) n
  new := fun c h => by
    rcases b.new c h with q | q
    · exact a.new c q
    · right
      cases e : H c with
      | none => rfl
      | some o =>
        by_cases hc : some c = g.ad
        · rw [a.dr c hc.symm] at q
          cases q
        · rw [a.old c o e hc] at q
          cases q
  fd := b.fd
  dr := b.dr
theorem Post.refl (s : Sub F H) (fd : ∀ a, g.ad = some a → F a = none) (d : ∀ a, g.ad = some a → H a = some (.lst (dr.reverse.map V.int))) : Post g F H F H dr := ⟨Same.refl _, s, fun _ _ h _ => h, fun _ h => .inl h, fd, d⟩
theorem sub_upd {p : Addr} {o : HO} (h : F p = none) : Sub F (upd F p o) := fun b u e => by
  rw [upd_ne (ne_of_none e h)]
  exact e
theorem Post.self (a : Post g F H F1 H1 dr1) : Post g F1 H1 F1 H1 dr1 := Post.refl a.s a.fd a.dr
theorem Post.pne (a : Post g F H F1 H1 dr1) {p : Addr} (h : H1 p = none) : some p ≠ g.ad := fun e => by
  rw [a.dr p e.symm] at h
  cases h
theorem ne_ad {g : Gd} {p a : Addr} (h : some p ≠ g.ad) (e : g.ad = some a) : a ≠ p := fun z => h (by rw [e, z])
/-- a new object; known to all or not -/
theorem Post.alloc (a : Post g F H F1 H1 dr1) {p : Addr} {o : HO} (h : H1 p = none) : Post g F H (upd F1 p o) (upd H1 p o) dr1 := by
  have hp := a.pne h
  have hF : F1 p = none := a.s.free h
  refine ⟨a.f.trans (sub_upd hF), fun b u e => ?_, fun b u e n => ?_, fun b e => ?_, ?_, ?_⟩
  · by_cases hb : b = p
    · subst hb
      rw [upd_same] at e ⊢
      exact e
    · rw [upd_ne hb] at e ⊢
      exact a.s _ _ e
  · have q := a.old b u e n
    rw [upd_ne (ne_of_none q h)]
    exact q
  · by_cases hb : b = p
    · subst hb
      right
      cases q : H b with
      | none => rfl
      | some u =>
        rw [a.old b u q hp] at h
        cases h
    · rw [upd_ne hb] at e
      exact a.new b e
  · intro c hc
    rw [upd_ne (ne_ad hp hc)]
    exact a.fd c hc
  · intro c hc
    rw [upd_ne (ne_ad hp hc)]
    exact a.dr c hc
theorem Post.allocH (a : Post g F H F1 H1 dr1) {p : Addr} {o : HO} (h : H1 p = none) : Post g F H F1 (upd H1 p o) dr1 := by
  have hp := a.pne h
  refine ⟨a.f, fun b u e => ?_, fun b u e n => ?_, a.new, a.fd, ?_⟩
  · have q := a.s _ _ e
    rw [upd_ne (ne_of_none q h)]
    exact q
  · have q := a.old b u e n
    rw [upd_ne (ne_of_none q h)]
    exact q
  · intro c hc
    rw [upd_ne (ne_ad hp hc)]
    exact a.dr c hc
/-- an own object is changed -/
theorem Post.mut (a : Post g F H F1 H1 dr1) {p : Addr} {o : HO} (h : H p = none) (hF : F1 p = none) (hp : some p ≠ g.ad) : Post g F H F1 (upd H1 p o) dr1 := by
  refine ⟨a.f, fun b u e => ?_, fun b u e n => ?_, a.new, a.fd, ?_⟩
  · rw [upd_ne (ne_of_none e hF)]
    exact a.s _ _ e
  · rw [upd_ne (ne_of_none e h)]
    exact a.old b u e n
  · intro c hc
    rw [upd_ne (ne_ad hp hc)]
    exact a.dr c hc
/-- an own object becomes known -/
theorem Post.frz (a : Post g F H F1 H1 dr1) {p : Addr} {o : HO} (h : H p = none) (hF : F1 p = none) (hp : some p ≠ g.ad) (ho : H1 p = some o) : Post g F H (upd F1 p o) H1 dr1 := by
  refine ⟨a.f.trans (sub_upd hF), fun b u e => ?_, a.old, fun b e => ?_, ?_, a.dr⟩
  · by_cases hb : b = p
    · subst hb
      rw [upd_same] at e
      cases e
      exact ho
    · rw [upd_ne hb] at e
      exact a.s _ _ e
  · by_cases hb : b = p
    · subst hb
      exact .inr h
    · rw [upd_ne hb] at e
      exact a.new b e
  · intro c hc
    rw [upd_ne (ne_ad hp hc)]
    exact a.fd c hc
/-- the row of draws is shortened -/
theorem Post.draw (a : Post g F H F1 H1 dr1) {q : Addr} (hq : g.ad = some q) : Post g F H F1 (upd H1 q (.lst (dr2.reverse.map V.int))) dr2 := by
  refine ⟨a.f, fun b u e => ?_, fun b u e n => ?_, a.new, a.fd, fun c hc => ?_⟩
  · rw [upd_ne (ne_of_none e (a.fd q hq))]
    exact a.s _ _ e
  · rw [upd_ne (Ne.symm (ne_ad n hq))]
    exact a.old b u e n
  · rw [hq] at hc
    cases hc
    exact upd_same
end

theorem RepQ.step {g : Gd} {pk : Bool} {F H F1 H1 : Hp} {dr : List Int} {d : D} {v : V} (h : RepQ g pk F H d v) (a : Post g F H F1 H1 dr) : RepQ g pk F1 H1 d v := by
  rcases h with h | ⟨q, p, e, n, h⟩
  · exact .inl (Rep.mono a.f _ _ h)
  · exact .inr ⟨q, p, e, n, h.mono a.f fun o e => a.old _ _ e n⟩
/-- how the slots stand -/
def SlotR (g : Gd) (F H H0 : Hp) (s : Sl) (o : Option (Option V)) : Prop := match s with
  | .no => True
  | .val d => ∃ v, o = some (some v) ∧ Rep g F d v
  | .own d => ∃ p, o = some (some (.ref p)) ∧ F p = none ∧ H0 p = none ∧ some p ≠ g.ad ∧ OwnR g F H p d
structure StR (g : Gd) (F0 H0 : Hp) (σ : L2.St) (env : Env) (F H : Hp) (dr : List Int) : Prop where
  po : Post g F0 H0 F H dr
  len : σ.length = env.length
  slot : ∀ i, SlotR g F H H0 (get env i) σ[i]?
  apart : ∀ i j d e p, get env i = .own d → get env j = .own e → σ[i]? = some (some (.ref p)) → σ[j]? = some (some (.ref p)) → i = j
section
variable {g : Gd} {F0 H0 F H F1 H1 : Hp} {dr dr1 : List Int} {σ : L2.St} {env : Env}
theorem SlotR.step {s : Sl} {o : Option (Option V)} (h : SlotR g F H H0 s o) (a : Post g F H F1 H1 dr1) : SlotR g F1 H1 H0 s o := by
  cases s with
  | no => trivial
  | val d =>
    obtain ⟨v, e, r⟩ := h
    exact ⟨v, e, Rep.mono a.f _ _ r⟩
  | own d =>
    obtain ⟨p, e, f, h0, n, r⟩ := h
    obtain ⟨o, ho⟩ := r.there
    refine ⟨p, e, ?_, h0, n, r.mono a.f fun o h => a.old _ _ h n⟩
    cases q : F1 p with
    | none => rfl
    | some u =>
      rcases a.new p (by rw [q]; simp) with z | z
      · exact absurd f z
      · rw [ho] at z
        cases z
theorem StR.step (a : StR g F0 H0 σ env F H dr) (b : Post g F H F1 H1 dr1) : StR g F0 H0 σ env F1 H1 dr1 := ⟨a.po.trans b, a.len, fun i => (a.slot i).step b, a.apart⟩
theorem get_set (env : Env) (i j : Nat) (s : Sl) : get (env.set i s) j = if i = j ∧ i < env.length then s else get env j := by
  unfold get
  rw [List.getD_eq_getElem?_getD, List.getD_eq_getElem?_getD, List.getElem?_set]
  by_cases h : i = j
  · subst h
    by_cases hl : i < env.length
    · simp [hl]
    · simp [hl]
  · simp [h]
/-- a slot takes a value known to all -/
theorem StR.setV (a : StR g F0 H0 σ env F H dr) {i : Nat} {d : D} {v : V} (hi : i < env.length) (r : Rep g F d v) : StR g F0 H0 (σ.set i (some v)) (env.set i (.val d)) F H dr := by
  refine ⟨a.po, by rw [List.length_set, List.length_set]; exact a.len, fun j => ?_, fun j l d' e' p h1 h2 h3 h4 => ?_⟩
  · rw [get_set]
    by_cases hj : i = j
    · subst hj
      rw [if_pos ⟨rfl, hi⟩, List.getElem?_set_self (by rw [a.len]; exact hi)]
      exact ⟨v, rfl, r⟩
    · rw [if_neg (fun z => hj z.1), List.getElem?_set_ne hj]
      exact a.slot j
  · rw [get_set] at h1 h2
    by_cases hj : i = j
    · rw [if_pos ⟨hj, hi⟩] at h1
      cases h1
    · by_cases hl : i = l
      · rw [if_pos ⟨hl, hi⟩] at h2
        cases h2
      · rw [if_neg (fun z => hj z.1)] at h1
        rw [if_neg (fun z => hl z.1)] at h2
        rw [List.getElem?_set_ne hj] at h3
        rw [List.getElem?_set_ne hl] at h4
        exact a.apart j l d' e' p h1 h2 h3 h4
/-- a slot takes a new object as its own -/
theorem StR.setO (a : StR g F0 H0 σ env F H dr) {i : Nat} {d : D} {p : Addr} (hi : i < env.length) (f : F p = none) (h0 : H0 p = none) (n : some p ≠ g.ad) (r : OwnR g F H p d)
    (ap : ∀ j d', get env j = .own d' → σ[j]? = some (some (.ref p)) → j = i) : StR g F0 H0 (σ.set i (some (.ref p))) (env.set i (.own d)) F H dr := by
  refine ⟨a.po, by rw [List.length_set, List.length_set]; exact a.len, fun j => ?_, fun j l d' e' q h1 h2 h3 h4 => ?_⟩
  · rw [get_set]
    by_cases hj : i = j
    · subst hj
      rw [if_pos ⟨rfl, hi⟩, List.getElem?_set_self (by rw [a.len]; exact hi)]
      exact ⟨p, rfl, f, h0, n, r⟩
    · rw [if_neg (fun z => hj z.1), List.getElem?_set_ne hj]
      exact a.slot j
  · rw [get_set] at h1 h2
    by_cases hj : i = j
    · by_cases hl : i = l
      · rw [← hj, ← hl]
      · rw [if_neg (fun z => hl z.1)] at h2
        rw [List.getElem?_set_ne hl] at h4
        subst hj
        rw [List.getElem?_set_self (by rw [a.len]; exact hi)] at h3
        cases h3
        exact (ap l e' h2 h4).symm
    · rw [if_neg (fun z => hj z.1)] at h1
      rw [List.getElem?_set_ne hj] at h3
      by_cases hl : i = l
      · subst hl
        rw [List.getElem?_set_self (by rw [a.len]; exact hi)] at h4
        cases h4
        exact ap j d' h1 h3
      · rw [if_neg (fun z => hl z.1)] at h2
        rw [List.getElem?_set_ne hl] at h4
        exact a.apart j l d' e' q h1 h2 h3 h4
end
end Cr
/-! Operators upon trees. -/
namespace Cr
open PySem PySem.Spec PyProof.Rows L2

abbrev gd (X : Cx) (ad : Option Addr) : Gd := ⟨X.K, X.mg, ad⟩
def pyOp : BOp → Operator
  | .add => .Add | .sub => .Sub | .mul => .Mult | .fdiv => .FloorDiv | .mod => .Mod | .pow => .Pow | .shl => .LShift | .shr => .RShift | .band => .BitAnd | .bor => .BitOr | .bxor => .BitXor
def pyCm : COp → CmpOp
  | .eq => .Eq | .ne => .NotEq | .lt => .Lt | .le => .LtE | .gt => .Gt | .ge => .GtE | .is => .Is | .isnot => .IsNot | .in_ => .In | .notin => .NotIn

/-- a new object of the frame's own, holding d -/
def KontF (g : Gd) (F H : Hp) (d : D) (Q : VK) : Prop := ∀ p o, H p = none → OwnR g F (upd H p o) p d → Q (.ref p) (upd H p o)
/-- the value d in some form: there, or newly made -/
def Kont (g : Gd) (F H : Hp) (d : D) (Q : VK) : Prop := (∀ v, Rep g F d v → Q v H) ∧ ∀ p o, H p = none → Rep g (upd F p o) d (.ref p) → Q (.ref p) (upd H p o)
/-- what an operator's answer asks: lists are made anew -/
def KontX (g : Gd) (F H : Hp) (d : D) (Q : VK) : Prop := match d with
  | .lst ds => KontF g F H (.lst ds) Q
  | .dicK _ _ => True
  | .dicT _ _ => True
  | d => Kont g F H d Q

/-- o is a tuple of these, made anew -/
theorem rep_tup {g : Gd} {F : Hp} {ds : List D} {vs : List V} {p : Addr} (h : F p = none) (r : Reps g F ds vs) (l : ds.length ≤ sizeLine) : Rep g (upd F p (.tup vs)) (.tup ds) (.ref p) :=
  ⟨l, p, vs, rfl, upd_same, Reps.mono (sub_upd h) _ _ r⟩
theorem own_lst {g : Gd} {F H : Hp} {ds : List D} {vs : List V} {p : Addr} (r : Reps g F ds vs) (l : ds.length ≤ sizeLine) : OwnR g F (upd H p (.lst vs)) p (.lst ds) := ⟨l, vs, upd_same, r⟩
theorem szOk_le {n : Nat} (h : szOk n = true) : n ≤ sizeLine := of_decide_eq_true h
theorem grd_some {α : Type} {b : Bool} {a x : α} (h : grd b a = some x) : b = true ∧ a = x := by
  unfold grd at h
  split at h
  · rename_i hb
    exact ⟨hb, Option.some.inj h⟩
  · cases h
theorem pos_le (i j : Int) (h : 0 < j) : i.fdiv j = i / j := Int.fdiv_eq_ediv_of_nonneg i (by omega)
theorem foldl_app (xs : Array Nat) : ∀ (n : Nat) (acc : List Nat), ((List.replicate n xs).foldl (· ++ ·) acc.toArray) = (acc ++ (List.replicate n xs.toList).flatten).toArray
  | 0, acc => by simp
  | n + 1, acc => by
    rw [List.replicate_succ, List.replicate_succ, List.foldl_cons, List.flatten_cons]
    have e : acc.toArray ++ xs = (acc ++ xs.toList).toArray := by simp
    rw [e, foldl_app xs n (acc ++ xs.toList)]
    simp
section
variable {X : Cx} {ad : Option Addr}
theorem op_mul_str : OpR X (binaryOp .Mult) (fun x y H Q => ∃ z n, x = .str z ∧ y = .int n ∧ (-(2 ^ 63) ≤ n ∧ n < 2 ^ 63) ∧ z.length * n.toNat ≤ sizeLine ∧ Q (.str (repStr z n.toNat)) H) := by
  intro pins s σ H x y v u Q I rx ry h
  obtain ⟨z, n, rfl, rfl, ⟨h1, h2⟩, hl, q⟩ := h
  obtain ⟨t, rfl⟩ := rx
  obtain ⟨t', rfl⟩ := ry
  have hr : (decide (n < -(2 ^ 63 : Int)) || decide (n ≥ 2 ^ 63)) = false := by
    rw [decide_eq_false (by omega), decide_eq_false (by omega)]
    rfl
  have s24 := sizeLine_eq
  refine PySem.P.mul_str hr (fun h3 h4 => ?_) (fun h3 h4 => ?_) ?_
  · have hz : 0 < z.length := by
      cases e : z.length with
      | zero => rw [e] at h4; simp at h4
      | succ k => omega
    have hn1 : 1 ≤ n := by omega
    have hb : (z.length : Int) * n ≤ 16777216 := by
      have : ((z.length * n.toNat : Nat) : Int) ≤ ((16777216 : Nat) : Int) := by
        have := hl
        rw [s24] at this
        exact_mod_cast this
      rw [Int.natCast_mul, Int.toNat_of_nonneg (by omega)] at this
      exact this
    intro h5
    have h6 : (2 ^ 63 - 1 : Int) / n < (z.length : Int) := h5
    have h7 : (2 ^ 63 - 1 : Int) < (z.length : Int) * n := Int.lt_mul_of_ediv_lt (by omega) h6
    omega
  · exact decide_eq_false (by omega)
  · have fin : ∀ (w' : Value) (tk : Nat), RelV (.str (repStr z n.toNat)) w' → EP X pins σ Q w' { s with toks := tk } := fun w' tk r => ⟨_, H, I.tok tk, r, q⟩
    by_cases h3 : n < 1
    · rw [if_pos h3]
      have e : n.toNat = 0 := by omega
      refine ⟨by decide, fin _ _ ⟨s.toks, ?_⟩⟩
      rw [e]
      rfl
    · rw [if_neg h3]
      cases h4 : (n == 1 || z.length == 0) with
      | true =>
        rw [if_pos rfl]
        refine fin _ s.toks ⟨t, ?_⟩
        have e2 : repStr z n.toNat = z := by
          unfold repStr
          rcases Bool.or_eq_true_iff.mp h4 with h5 | h5
          · have : n = 1 := by simpa using h5
            subst this
            simp
          · have h6 : z.length = 0 := beq_iff_eq.mp h5
            have h7 : z.cps = #[] := Array.eq_empty_of_size_eq_zero (show z.cps.size = 0 from h6)
            obtain ⟨c⟩ := z
            simp only at h7
            subst h7
            simp
        rw [e2]
      | false =>
        rw [if_neg Bool.false_ne_true]
        have e2 : (⟨(List.replicate n.toNat z.cps).foldl (· ++ ·) #[]⟩ : Str) = repStr z n.toNat := by
          unfold repStr
          rw [show (#[] : Array Nat) = ([] : List Nat).toArray from rfl, foldl_app]
          simp
        rw [e2]
        refine ⟨?_, fin _ _ ⟨s.toks, rfl⟩⟩
        have e3 : (repStr z n.toNat).length = n.toNat * z.length := by
          unfold repStr Str.length
          rw [List.size_toArray, List.length_flatten]
          simp
        rw [e3, Nat.mul_comm]
        exact hl
def rBin (g : Gd) (op : BOp) : R2 := fun x y H Q => ∃ F d1 d2 d, Sub F H ∧ RepQ g true F H d1 x ∧ RepQ g true F H d2 y ∧ binD op d1 d2 = some d ∧ KontX g F H d Q
theorem rep_int (g : Gd) (F : Hp) (i : Int) : Rep g F (.int i) (.int i) := rfl
theorem two63 : (2 : Int) ^ 63 = 9223372036854775808 := by decide
theorem op_bin (op : BOp) : OpR X (binaryOp (pyOp op)) (rBin (gd X ad) op) := by
  intro pins s σ H x y v u Q I rx ry h
  obtain ⟨F, d1, d2, d, sb, r1, r2, e, k⟩ := h
  cases op with
  | add =>
    cases d1 <;> cases d2 <;> try (cases e; done)
    · cases rq_int r1; cases rq_int r2; cases e
      exact op_add pins s σ H _ _ v u Q I rx ry ⟨_, _, rfl, rfl, k.1 _ rfl⟩
    · cases rq_str r1; cases rq_str r2
      obtain ⟨h1, rfl⟩ := grd_some e
      exact op_add_str pins s σ H _ _ v u Q I rx ry ⟨_, _, rfl, rfl, szOk_le h1, k.1 _ rfl⟩
    · obtain ⟨p, xs, rfl, h1, t1, l1⟩ := rq_tup r1 sb
      obtain ⟨p2, ys, rfl, h2, t2, l2⟩ := rq_tup r2 sb
      obtain ⟨h3, rfl⟩ := grd_some e
      have h3' := szOk_le h3
      have e1 := t1.len
      have e2 := t2.len
      refine op_catA pins s σ H _ _ v u Q I rx ry ⟨p, p2, xs, ys, rfl, rfl, .of h1, .of h2, by omega, fun z => ?_, fun z1 z2 => ?_, fun z1 z2 p3 hp => ?_⟩
      · subst z
        have : (show List D from _) = [] := List.eq_nil_of_length_eq_zero (by simpa using e1.symm)
        subst this
        refine k.1 _ ?_
        rw [List.nil_append]
        rcases r2 with r2 | ⟨_, _, _, _, z⟩
        · exact r2
        · exact z.elim
      · subst z2
        have : (show List D from _) = [] := List.eq_nil_of_length_eq_zero (by simpa using e2.symm)
        subst this
        refine k.1 _ ?_
        rw [List.append_nil]
        rcases r1 with r1 | ⟨_, _, _, _, z⟩
        · exact r1
        · exact z.elim
      · exact k.2 _ _ hp (rep_tup (sb.free hp) (t1.app t2) (by rw [List.length_append]; exact h3'))
    · obtain ⟨p, xs, rfl, h1, t1, l1⟩ := rq_lst r1 sb
      obtain ⟨p2, ys, rfl, h2, t2, l2⟩ := rq_lst r2 sb
      obtain ⟨h3, rfl⟩ := grd_some e
      have h3' := szOk_le h3
      have e1 := t1.len
      have e2 := t2.len
      exact op_cat pins s σ H _ _ v u Q I rx ry ⟨p, p2, xs, ys, rfl, rfl, h1, h2, by omega, fun p3 hp => k _ _ hp (own_lst (t1.app t2) (by rw [List.length_append]; exact h3'))⟩
  | sub =>
    cases d1 <;> cases d2 <;> try (cases e; done)
    cases rq_int r1; cases rq_int r2; cases e
    exact op_sub pins s σ H _ _ v u Q I rx ry ⟨_, _, rfl, rfl, k.1 _ rfl⟩
  | mul =>
    cases d1 <;> cases d2 <;> try (cases e; done)
    · cases rq_int r1; cases rq_int r2
      obtain ⟨h1, rfl⟩ := grd_some e
      unfold mulOk at h1
      rw [Bool.or_eq_true, decide_eq_true_eq] at h1
      rcases h1 with h1 | h1
      · rw [Bool.or_eq_true, decide_eq_true_eq, decide_eq_true_eq] at h1
        exact op_mul pins s σ H _ _ v u Q I rx ry ⟨_, _, rfl, rfl, h1, k.1 _ rfl⟩
      · exact op_mulW pins s σ H _ _ v u Q I rx ry ⟨_, _, rfl, rfl, h1, k.1 _ rfl⟩
    · cases rq_str r1; cases rq_int r2
      obtain ⟨h1, rfl⟩ := grd_some e
      rw [Bool.and_eq_true, decide_eq_true_eq] at h1
      exact op_mul_str pins s σ H _ _ v u Q I rx ry ⟨_, _, rfl, rfl, h1.1, szOk_le h1.2, k.1 _ rfl⟩
    · rename_i es n
      obtain ⟨p, xs, rfl, h1, t1, l1⟩ := rq_tup r1 sb
      cases rq_int r2
      obtain ⟨h3, rfl⟩ := grd_some e
      rw [Bool.and_eq_true, decide_eq_true_eq] at h3
      have e1 := t1.len
      have hs := sizeLine_eq
      refine op_repT pins s σ H _ _ v u Q I rx ry ⟨p, _, xs, rfl, rfl, .of h1, fun z => ?_, h3.2.1, h3.2.2.1, by omega, fun p3 hp => k.2 _ _ hp (rep_tup (sb.free hp) (t1.rep _) ?_)⟩
      · subst z
        have : (show List D from _) = [] := List.eq_nil_of_length_eq_zero (by simpa using e1.symm)
        subst this
        simp at h3
      · rw [List.length_flatten]
        simp only [List.map_replicate, List.sum_replicate_nat]
        have h5 := h3.2
        have : n.toNat * es.length ≤ 1000 * 1000 := Nat.mul_le_mul (by omega) h5.2.2
        omega
    · obtain ⟨p, xs, rfl, h1, t1, l1⟩ := rq_lst r1 sb
      cases rq_int r2
      obtain ⟨h3, rfl⟩ := grd_some e
      rw [Bool.and_eq_true, decide_eq_true_eq] at h3
      have h4 := szOk_le h3.2
      have e1 := t1.len
      refine op_rep pins s σ H _ _ v u Q I rx ry ⟨p, _, xs, rfl, rfl, h1, h3.1.1, h3.1.2, by rw [e1]; exact h4, fun p3 hp => k _ _ hp (own_lst (t1.rep _) ?_)⟩
      rw [List.length_flatten]
      simp only [List.map_replicate, List.sum_replicate_nat]
      rw [Nat.mul_comm]
      exact h4
  | fdiv =>
    cases d1 <;> cases d2 <;> try (cases e; done)
    cases rq_int r1; cases rq_int r2
    obtain ⟨h1, rfl⟩ := grd_some e
    unfold divOk at h1
    rw [Bool.and_eq_true, Bool.or_eq_true, decide_eq_true_eq, decide_eq_true_eq, decide_eq_true_eq] at h1
    rcases h1 with ⟨h1, h2 | h2⟩
    · exact op_fdiv pins s σ H _ _ v u Q I rx ry ⟨_, _, rfl, rfl, ⟨h1, h2⟩, k.1 _ rfl⟩
    · exact op_fdivW pins s σ H _ _ v u Q I rx ry ⟨_, _, rfl, rfl, ⟨h1, h2⟩, k.1 _ rfl⟩
  | mod =>
    cases d1 <;> cases d2 <;> try (cases e; done)
    cases rq_int r1; cases rq_int r2
    obtain ⟨h1, rfl⟩ := grd_some e
    exact op_mod pins s σ H _ _ v u Q I rx ry ⟨_, _, rfl, rfl, of_decide_eq_true h1, k.1 _ rfl⟩
  | pow =>
    cases d1 <;> cases d2 <;> try (cases e; done)
    cases rq_int r1; cases rq_int r2
    obtain ⟨h1, rfl⟩ := grd_some e
    unfold powOk at h1
    rw [decide_eq_true_eq] at h1
    exact op_pow pins s σ H _ _ v u Q I rx ry ⟨_, _, rfl, rfl, h1, k.1 _ rfl⟩
  | shl =>
    cases d1 <;> cases d2 <;> try (cases e; done)
    cases rq_int r1; cases rq_int r2
    obtain ⟨h1, rfl⟩ := grd_some e
    unfold powOk at h1
    rw [decide_eq_true_eq] at h1
    exact op_shl pins s σ H _ _ v u Q I rx ry ⟨_, _, rfl, rfl, h1, k.1 _ rfl⟩
  | shr =>
    cases d1 <;> cases d2 <;> try (cases e; done)
    cases rq_int r1; cases rq_int r2
    obtain ⟨h1, rfl⟩ := grd_some e
    exact op_shr pins s σ H _ _ v u Q I rx ry ⟨_, _, rfl, rfl, of_decide_eq_true h1, k.1 _ rfl⟩
  | band =>
    cases d1 <;> cases d2 <;> try (cases e; done)
    cases rq_int r1; cases rq_int r2; cases e
    exact op_and pins s σ H _ _ v u Q I rx ry ⟨_, _, rfl, rfl, k.1 _ rfl⟩
  | bor =>
    cases d1 <;> cases d2 <;> try (cases e; done)
    cases rq_int r1; cases rq_int r2; cases e
    exact op_or pins s σ H _ _ v u Q I rx ry ⟨_, _, rfl, rfl, k.1 _ rfl⟩
  | bxor =>
    cases d1 <;> cases d2 <;> try (cases e; done)
    cases rq_int r1; cases rq_int r2; cases e
    exact op_xor pins s σ H _ _ v u Q I rx ry ⟨_, _, rfl, rfl, k.1 _ rfl⟩

/-- in place -/
def rAug (op : BOp) : R2 := fun x y H Q => ∃ i j k, x = .int i ∧ y = .int j ∧ augD op (.int i) (.int j) = some (.int k) ∧ Q (.int k) H
theorem augD_inv {op : BOp} {x y d : D} (h : augD op x y = some d) : ∃ i j k, x = .int i ∧ y = .int j ∧ d = .int k := by
  cases op <;> cases x <;> cases y <;> first | (cases h; done) | skip
  all_goals first | (cases h; exact ⟨_, _, _, rfl, rfl, rfl⟩) | (obtain ⟨_, rfl⟩ := grd_some h; exact ⟨_, _, _, rfl, rfl, rfl⟩)
theorem iop_aug (op : BOp) : OpR X (inplaceOp (pyOp op)) (rAug op) := by
  intro pins s σ H x y v u Q I rx ry ⟨i, j, k, e1, e2, e, q⟩
  subst e1 e2
  cases op with
  | add => cases e; exact iop_add pins s σ H _ _ v u Q I rx ry ⟨_, _, rfl, rfl, q⟩
  | sub => cases e; exact iop_sub pins s σ H _ _ v u Q I rx ry ⟨_, _, rfl, rfl, q⟩
  | mul =>
    obtain ⟨h1, h2⟩ := grd_some e
    cases h2
    rw [Bool.or_eq_true, decide_eq_true_eq, decide_eq_true_eq] at h1
    exact iop_mul pins s σ H _ _ v u Q I rx ry ⟨_, _, rfl, rfl, h1, q⟩
  | fdiv =>
    obtain ⟨h1, h2⟩ := grd_some e
    cases h2
    unfold divOk at h1
    rw [Bool.and_eq_true, Bool.or_eq_true, decide_eq_true_eq, decide_eq_true_eq, decide_eq_true_eq] at h1
    rcases h1 with ⟨h1, h2 | h2⟩
    · exact iop_fdiv pins s σ H _ _ v u Q I rx ry ⟨_, _, rfl, rfl, ⟨h1, h2⟩, q⟩
    · exact iop_fdivW pins s σ H _ _ v u Q I rx ry ⟨_, _, rfl, rfl, ⟨h1, h2⟩, q⟩
  | mod =>
    obtain ⟨h1, h2⟩ := grd_some e
    cases h2
    exact iop_mod pins s σ H _ _ v u Q I rx ry ⟨_, _, rfl, rfl, of_decide_eq_true h1, q⟩
  | shl =>
    obtain ⟨h1, h2⟩ := grd_some e
    cases h2
    unfold powOk at h1
    rw [decide_eq_true_eq] at h1
    exact iop_shl pins s σ H _ _ v u Q I rx ry ⟨_, _, rfl, rfl, h1, q⟩
  | band => cases e; exact iop_and pins s σ H _ _ v u Q I rx ry ⟨_, _, rfl, rfl, q⟩
  | bor => cases e; exact iop_or pins s σ H _ _ v u Q I rx ry ⟨_, _, rfl, rfl, q⟩
  | bxor => cases e; exact iop_xor pins s σ H _ _ v u Q I rx ry ⟨_, _, rfl, rfl, q⟩
  | pow => cases e
  | shr => cases e

/-! ### comparisons -/
def rCmp (g : Gd) (op : COp) : R2 := fun x y H Q => ∃ F d1 d2 b, Sub F H ∧ RepQ g true F H d1 x ∧ RepQ g true F H d2 y ∧ cmpD op d1 d2 = some b ∧ Q (.bl b) H
theorem eqD_some {x y : D} {b : Bool} (h : eqD x y = some b) : ∃ p q, x.py = some p ∧ y.py = some q ∧ SeqAt.shaped p = true ∧ SeqAt.shaped q = true ∧ b = PyData.eqv p q := by
  unfold eqD at h
  cases e1 : x.py with
  | none => rw [e1] at h; cases h
  | some p =>
    cases e2 : y.py with
    | none => rw [e1, e2] at h; cases h
    | some q =>
      rw [e1, e2] at h
      obtain ⟨h1, h2⟩ := grd_some h
      rw [Bool.and_eq_true] at h1
      exact ⟨p, q, rfl, rfl, h1.1, h1.2, h2.symm⟩
theorem map_not {o : Option Bool} {b : Bool} (h : o.map (!·) = some b) : ∃ c, o = some c ∧ b = !c := by
  cases o with
  | none => cases h
  | some c => exact ⟨c, rfl, (Option.some.inj h).symm⟩
theorem key_V {g : Gd} {pk : Bool} {F H : Hp} {d : D} {v : V} {k : L2.Key} (h : RepQ g pk F H d v) (e : d.key = some k) : v = kV k := by
  cases d with
  | int i => cases e; exact rq_int h
  | str i => cases e; exact rq_str h
  | _ => cases e
theorem keysOf_V {g : Gd} {F : Hp} : ∀ {ds : List D} {vs : List V} {ks : List L2.Key}, Reps g F ds vs → keysOf ds = some ks → vs = ks.map kV
  | [], vs, ks, h, e => by
    cases (show some [] = some ks from e)
    exact h
  | d :: ds, vs, ks, h, e => by
    obtain ⟨w, ws, rfl, r, t⟩ := h
    have e' : (match d.key, keysOf ds with | some k, some ks => some (k :: ks) | _, _ => none) = some ks := e
    cases e1 : d.key with
    | none => rw [e1] at e'; cases e'
    | some k =>
      cases e2 : keysOf ds with
      | none => rw [e1, e2] at e'; cases e'
      | some ks' =>
        rw [e1, e2] at e'
        cases e'
        rw [key_V (pk := false) (H := F) (.inl r) e1, keysOf_V t e2]
        rfl
theorem lookK_val {κ : Type} [DecidableEq κ] {g : Gd} {F : Hp} (k : κ) : ∀ {ks : List κ} {ds : List D} {vs : List V}, Reps g F ds vs → ks.length = ds.length →
    (lookK ks ds k = none ∧ valV (ks.zip vs) k = none) ∨ ∃ d v, lookK ks ds k = some d ∧ valV (ks.zip vs) k = some v ∧ Rep g F d v
  | [], [], vs, h, l => by
    cases (show vs = [] from h)
    exact .inl ⟨rfl, rfl⟩
  | [], _ :: _, _, _, l => by simp at l
  | _ :: _, [], _, _, l => by simp at l
  | k' :: ks, d :: ds, vs, h, l => by
    obtain ⟨w, ws, rfl, r, t⟩ := h
    by_cases e : k' = k
    · right
      refine ⟨d, w, ?_, ?_, r⟩
      · show (if k' = k then some d else lookK ks ds k) = some d
        rw [if_pos e]
      · rw [List.zip_cons_cons]
        exact valV_pos e
    · have e1 : lookK (k' :: ks) (d :: ds) k = lookK ks ds k := by
        show (if k' = k then some d else lookK ks ds k) = _
        rw [if_neg e]
      have e2 : valV ((k' :: ks).zip (w :: ws)) k = valV (ks.zip ws) k := by
        rw [List.zip_cons_cons]
        exact valV_neg e
      rw [e1, e2]
      exact lookK_val k t (by simpa using l)
theorem ints_len {ds : List D} {is : List Int} : intsOf ds = some is → is.length = ds.length := by
  induction ds generalizing is with
  | nil => intro e; cases e; rfl
  | cons d ds ih =>
    intro e
    cases d with
    | int i =>
      have e' : (intsOf ds).map (i :: ·) = some is := e
      cases q : intsOf ds with
      | none => rw [q] at e'; cases e'
      | some js =>
        rw [q] at e'
        cases e'
        simp [ih q]
    | _ => cases e
theorem tup_ints {g : Gd} {F H : Hp} {ds : List D} {v : V} {is : List Int} (h : RepQ g true F H (.tup ds) v) (s : Sub F H) (e : intsOf ds = some is) : ∃ p, v = .ref p ∧ SqT g.K H p (is.map V.int) := by
  obtain ⟨p, vs, rfl, q, t, l⟩ := rq_tup h s
  rw [t.ints e] at q
  exact ⟨p, rfl, .of q⟩
theorem pys_dp {g : Gd} {F H : Hp} {ds : List D} {vs : List V} {ps : List PyData} (s : Sub F H) (t : Reps g F ds vs) (e : D.pys ds = some ps) : DpAll g.K H vs ps := Reps.dp s ds vs ps t e
theorem op_inTD (hu : X.A.units + 65 < cLine) : OpR X (compareOp .In) (fun x y H Q => ∃ d ds, Dp X.K H x d ∧ Dp X.K H y (.tuple ds) ∧ SeqAt.shaped d = true ∧ SeqAt.shaped (.list ds) = true ∧ Q (.bl (ds.any fun z => PyData.eqv z d)) H) := by
  intro pins s σ H x y v u Q I rx ry h
  obtain ⟨d, ds, hd, he, sd, se, q⟩ := h
  obtain ⟨as, ra⟩ := Dp.reads I d x v hd rx
  obtain ⟨bs, rb⟩ := Dp.reads I (.tuple ds) y u he ry
  exact SeqAt.in_tuple_reads rb ra (SeqAt.canLay_of_shaped se) (SeqAt.canLay_of_shaped sd) (room_in_shaped sd hu) ⟨.bl _, H, I, rfl, q⟩
theorem op_notInTD (hu : X.A.units + 65 < cLine) : OpR X (compareOp .NotIn) (fun x y H Q => ∃ d ds, Dp X.K H x d ∧ Dp X.K H y (.tuple ds) ∧ SeqAt.shaped d = true ∧ SeqAt.shaped (.list ds) = true ∧ Q (.bl (!ds.any fun z => PyData.eqv z d)) H) := by
  intro pins s σ H x y v u Q I rx ry h
  obtain ⟨d, ds, hd, he, sd, se, q⟩ := h
  obtain ⟨as, ra⟩ := Dp.reads I d x v hd rx
  obtain ⟨bs, rb⟩ := Dp.reads I (.tuple ds) y u he ry
  exact SeqAt.notIn_tuple_reads rb ra (SeqAt.canLay_of_shaped se) (SeqAt.canLay_of_shaped sd) (room_in_shaped sd hu) ⟨.bl _, H, I, rfl, q⟩
/-- a dict asked for a key -/
theorem dget_K {g : Gd} {F H : Hp} {ks : List L2.Key} {ds : List D} {x v : V} {dk : D} {k : L2.Key} (sb : Sub F H) (r2 : RepQ g true F H (.dicK ks ds) v) (r1 : RepQ g true F H dk x) (e : dk.key = some k) :
    ∃ p o, v = .ref p ∧ DGet H p x o ∧ o.isSome = (lookK ks ds k).isSome ∧ ∀ d, lookK ks ds k = some d → ∃ w, o = some w ∧ Rep g F d w := by
  obtain ⟨p, vs, rfl, h1, t, n, l, l2⟩ := rq_dicK r2 sb
  rw [key_V r1 e]
  refine ⟨p, _, rfl, .inl ⟨_, k, h1, rfl, rfl⟩, ?_, fun d hd => ?_⟩
  · rcases lookK_val k t l2 with ⟨a, b⟩ | ⟨d, w, a, b, _⟩ <;> rw [a, b] <;> rfl
  · rcases lookK_val k t l2 with ⟨a, b⟩ | ⟨d', w, a, b, r⟩
    · rw [a] at hd; cases hd
    · rw [a] at hd; cases hd
      exact ⟨w, b, r⟩
theorem dget_T {g : Gd} {F H : Hp} {ks : List (List L2.Key)} {ds : List D} {x v : V} {k : List L2.Key} (sb : Sub F H) (r2 : RepQ g true F H (.dicT ks ds) v) (r1 : ∃ q, x = .ref q ∧ H q = some (.tup (k.map kV))) :
    ∃ p o, v = .ref p ∧ DGet H p x o ∧ o.isSome = (lookK ks ds k).isSome ∧ ∀ d, lookK ks ds k = some d → ∃ w, o = some w ∧ Rep g F d w := by
  obtain ⟨p, vs, rfl, h1, t, n, l, l2⟩ := rq_dicT r2 sb
  obtain ⟨q, rfl, hq⟩ := r1
  refine ⟨p, _, rfl, .inr ⟨_, k, q, h1, rfl, hq, rfl⟩, ?_, fun d hd => ?_⟩
  · rcases lookK_val k t l2 with ⟨a, b⟩ | ⟨d, w, a, b, _⟩ <;> rw [a, b] <;> rfl
  · rcases lookK_val k t l2 with ⟨a, b⟩ | ⟨d', w, a, b, r⟩
    · rw [a] at hd; cases hd
    · rw [a] at hd; cases hd
      exact ⟨w, b, r⟩
theorem in_dict_run (hu : X.A.units + 1 < cLine) {pins : List (Addr × Obj)} {s : Shared} {σ : L2.St} {H : Hp} {x : V} {v : Value} {p : Addr} {o : Option V} {Q : VK} (I : Inv X pins σ H s) (g : DGet H p x o) (rx : RelV x v) (q : Q (.bl o.isSome) H) :
    wpAny (model X.prog X.w) X.A (compareOp .In v (.ref p)) (EP X pins σ Q) X.xe s := d_in hu I g rx fun s' I' => ⟨.bl _, H, I', rfl, q⟩
theorem notIn_dict_run (hu : X.A.units + 1 < cLine) {pins : List (Addr × Obj)} {s : Shared} {σ : L2.St} {H : Hp} {x : V} {v : Value} {p : Addr} {o : Option V} {Q : VK} (I : Inv X pins σ H s) (g : DGet H p x o) (rx : RelV x v) (q : Q (.bl (!o.isSome)) H) :
    wpAny (model X.prog X.w) X.A (compareOp .NotIn v (.ref p)) (EP X pins σ Q) X.xe s := d_notIn hu I g rx fun s' I' => ⟨.bl _, H, I', rfl, q⟩
theorem one_sign {z : Str} {c : Nat} (h : z.cps.toList = [c]) : z = ⟨#[c]⟩ := by
  obtain ⟨⟨l⟩⟩ := z
  simp only at h
  rw [h]
theorem run_in (hu : X.A.units + 65 < cLine) {pins : List (Addr × Obj)} {s : Shared} {σ : L2.St} {H F : Hp} {x y : V} {v u : Value} {Q : VK} {d1 d2 : D} {b : Bool} (I : Inv X pins σ H s) (rx : RelV x v) (ry : RelV y u) (sb : Sub F H)
    (r1 : RepQ (gd X ad) true F H d1 x) (r2 : RepQ (gd X ad) true F H d2 y) (e : inD d1 d2 = some b) (k : Q (.bl b) H) : wpAny (model X.prog X.w) X.A (compareOp .In v u) (EP X pins σ Q) X.xe s := by
  cases d2 with
  | str z =>
    cases d1 <;> try (cases e; done)
    rename_i w
    have e' : (match w.cps.toList with | [c] => some (decide (c ∈ z.cps.toList)) | _ => none) = some b := e
    split at e'
    · rename_i c hc
      cases e'
      cases rq_str r1; cases rq_str r2
      rw [one_sign hc] at rx
      exact op_in_sign pins s σ H _ _ v u Q I rx ry ⟨c, z, rfl, rfl, k⟩
    · cases e'
  | lst ds =>
    have e' : (match d1.py, D.pys ds with | some a, some bs => grd (SeqAt.shaped a && SeqAt.shaped (.list bs)) (bs.any fun z => PyData.eqv z a) | _, _ => none) = some b := by
      cases d1 <;> exact e
    cases e1 : d1.py with
    | none => rw [e1] at e'; cases e'
    | some a =>
      cases e2 : D.pys ds with
      | none => rw [e1, e2] at e'; cases e'
      | some bs =>
        rw [e1, e2] at e'
        obtain ⟨h1, rfl⟩ := grd_some e'
        rw [Bool.and_eq_true] at h1
        have e3 : (D.lst ds).py = some (.list bs) := by
          show (D.pys ds).map PyData.list = _
          rw [e2]
          rfl
        exact op_inD hu pins s σ H _ _ v u Q I rx ry ⟨a, bs, rq_dp r1 sb e1, rq_dp r2 sb e3, h1.1, h1.2, k⟩
  | tup ds =>
    have e' : (match d1.py, D.pys ds with | some a, some bs => grd (SeqAt.shaped a && SeqAt.shaped (.list bs)) (bs.any fun z => PyData.eqv z a) | _, _ => none) = some b := by
      cases d1 <;> exact e
    cases e1 : d1.py with
    | none => rw [e1] at e'; cases e'
    | some a =>
      cases e2 : D.pys ds with
      | none => rw [e1, e2] at e'; cases e'
      | some bs =>
        rw [e1, e2] at e'
        obtain ⟨h1, rfl⟩ := grd_some e'
        rw [Bool.and_eq_true] at h1
        have e3 : (D.tup ds).py = some (.tuple bs) := by
          show (D.pys ds).map PyData.tuple = _
          rw [e2]
          rfl
        exact op_inTD hu pins s σ H _ _ v u Q I rx ry ⟨a, bs, rq_dp r1 sb e1, rq_dp r2 sb e3, h1.1, h1.2, k⟩
  | dicK ks ds =>
    have e' : (match d1.key with | some k => some (lookK ks ds k).isSome | none => none) = some b := by
      cases d1 <;> exact e
    cases e1 : d1.key with
    | none => rw [e1] at e'; cases e'
    | some kk =>
      rw [e1] at e'
      cases e'
      obtain ⟨p, o, rfl, g, z, _⟩ := dget_K sb r2 r1 e1
      rw [← z] at k
      cases (show u = Value.ref p from ry)
      exact in_dict_run (by omega) I g rx k
  | dicT ks ds =>
    cases d1 <;> try (cases e; done)
    rename_i es
    have e' : (match keysOf es with | some k => some (lookK ks ds k).isSome | none => none) = some b := e
    cases e1 : keysOf es with
    | none => rw [e1] at e'; cases e'
    | some kk =>
      rw [e1] at e'
      cases e'
      obtain ⟨q, vs, rfl, hq, t, _⟩ := rq_tup r1 sb
      rw [keysOf_V t e1] at hq
      obtain ⟨p, o, rfl, g, z, _⟩ := dget_T sb r2 ⟨q, rfl, hq⟩
      rw [← z] at k
      cases (show u = Value.ref p from ry)
      exact in_dict_run (by omega) I g rx k
  | _ => cases d1 <;> cases e
theorem run_notin (hu : X.A.units + 65 < cLine) {pins : List (Addr × Obj)} {s : Shared} {σ : L2.St} {H F : Hp} {x y : V} {v u : Value} {Q : VK} {d1 d2 : D} {c : Bool} (I : Inv X pins σ H s) (rx : RelV x v) (ry : RelV y u) (sb : Sub F H)
    (r1 : RepQ (gd X ad) true F H d1 x) (r2 : RepQ (gd X ad) true F H d2 y) (e : inD d1 d2 = some c) (k : Q (.bl (!c)) H) : wpAny (model X.prog X.w) X.A (compareOp .NotIn v u) (EP X pins σ Q) X.xe s := by
  cases d2 with
  | str z =>
    cases d1 <;> try (cases e; done)
    rename_i w
    have e' : (match w.cps.toList with | [c] => some (decide (c ∈ z.cps.toList)) | _ => none) = some c := e
    split at e'
    · rename_i cc hc
      cases e'
      cases rq_str r1; cases rq_str r2
      rw [one_sign hc] at rx
      exact op_notIn_sign pins s σ H _ _ v u Q I rx ry ⟨cc, z, rfl, rfl, k⟩
    · cases e'
  | lst ds =>
    have e' : (match d1.py, D.pys ds with | some a, some bs => grd (SeqAt.shaped a && SeqAt.shaped (.list bs)) (bs.any fun z => PyData.eqv z a) | _, _ => none) = some c := by
      cases d1 <;> exact e
    cases e1 : d1.py with
    | none => rw [e1] at e'; cases e'
    | some a =>
      cases e2 : D.pys ds with
      | none => rw [e1, e2] at e'; cases e'
      | some bs =>
        rw [e1, e2] at e'
        obtain ⟨h1, rfl⟩ := grd_some e'
        rw [Bool.and_eq_true] at h1
        have e3 : (D.lst ds).py = some (.list bs) := by
          show (D.pys ds).map PyData.list = _
          rw [e2]
          rfl
        exact op_notInD hu pins s σ H _ _ v u Q I rx ry ⟨a, bs, rq_dp r1 sb e1, rq_dp r2 sb e3, h1.1, h1.2, k⟩
  | tup ds =>
    have e' : (match d1.py, D.pys ds with | some a, some bs => grd (SeqAt.shaped a && SeqAt.shaped (.list bs)) (bs.any fun z => PyData.eqv z a) | _, _ => none) = some c := by
      cases d1 <;> exact e
    cases e1 : d1.py with
    | none => rw [e1] at e'; cases e'
    | some a =>
      cases e2 : D.pys ds with
      | none => rw [e1, e2] at e'; cases e'
      | some bs =>
        rw [e1, e2] at e'
        obtain ⟨h1, rfl⟩ := grd_some e'
        rw [Bool.and_eq_true] at h1
        have e3 : (D.tup ds).py = some (.tuple bs) := by
          show (D.pys ds).map PyData.tuple = _
          rw [e2]
          rfl
        exact op_notInTD hu pins s σ H _ _ v u Q I rx ry ⟨a, bs, rq_dp r1 sb e1, rq_dp r2 sb e3, h1.1, h1.2, k⟩
  | dicK ks ds =>
    have e' : (match d1.key with | some k => some (lookK ks ds k).isSome | none => none) = some c := by
      cases d1 <;> exact e
    cases e1 : d1.key with
    | none => rw [e1] at e'; cases e'
    | some kk =>
      rw [e1] at e'
      cases e'
      obtain ⟨p, o, rfl, g, z, _⟩ := dget_K sb r2 r1 e1
      rw [← z] at k
      cases (show u = Value.ref p from ry)
      exact notIn_dict_run (by omega) I g rx k
  | dicT ks ds =>
    cases d1 <;> try (cases e; done)
    rename_i es
    have e' : (match keysOf es with | some k => some (lookK ks ds k).isSome | none => none) = some c := e
    cases e1 : keysOf es with
    | none => rw [e1] at e'; cases e'
    | some kk =>
      rw [e1] at e'
      cases e'
      obtain ⟨q, vs, rfl, hq, t, _⟩ := rq_tup r1 sb
      rw [keysOf_V t e1] at hq
      obtain ⟨p, o, rfl, g, z, _⟩ := dget_T sb r2 ⟨q, rfl, hq⟩
      rw [← z] at k
      cases (show u = Value.ref p from ry)
      exact notIn_dict_run (by omega) I g rx k
  | _ => cases d1 <;> cases e
theorem ltD_cases {x y : D} {b : Bool} (h : ltD x y = some b) : (∃ i j, x = .int i ∧ y = .int j ∧ b = decide (i < j)) ∨ (∃ i j, x = .str i ∧ y = .str j ∧ b = strLt i j) ∨ (∃ xs ys a c, x = .tup xs ∧ y = .tup ys ∧ intsOf xs = some a ∧ intsOf ys = some c ∧ b = HT.lexLt a c) ∨ ltG x y = some b := by
  unfold ltD at h
  split at h
  · exact .inl ⟨_, _, rfl, rfl, (Option.some.inj h).symm⟩
  · exact .inr (.inl ⟨_, _, rfl, rfl, (Option.some.inj h).symm⟩)
  · split at h
    · exact .inr (.inr (.inl ⟨_, _, _, _, rfl, rfl, ‹_›, ‹_›, (Option.some.inj h).symm⟩))
    · exact .inr (.inr (.inr h))
  · exact .inr (.inr (.inr h))
theorem leD_cases {x y : D} {b : Bool} (h : leD x y = some b) : (∃ i j, x = .int i ∧ y = .int j ∧ b = decide (i ≤ j)) ∨ (∃ i j, x = .str i ∧ y = .str j ∧ b = !strLt j i) ∨ ∃ c, ltG y x = some c ∧ b = !c := by
  unfold leD at h
  split at h
  · exact .inl ⟨_, _, rfl, rfl, (Option.some.inj h).symm⟩
  · exact .inr (.inl ⟨_, _, rfl, rfl, (Option.some.inj h).symm⟩)
  · exact .inr (.inr (map_not h))
theorem gtD_cases {x y : D} {b : Bool} (h : gtD x y = some b) : (∃ i j, x = .int i ∧ y = .int j ∧ b = decide (j < i)) ∨ (∃ i j, x = .str i ∧ y = .str j ∧ b = strLt j i) ∨ ltG y x = some b := by
  unfold gtD at h
  split at h
  · exact .inl ⟨_, _, rfl, rfl, (Option.some.inj h).symm⟩
  · exact .inr (.inl ⟨_, _, rfl, rfl, (Option.some.inj h).symm⟩)
  · exact .inr (.inr h)
theorem geD_cases {x y : D} {b : Bool} (h : geD x y = some b) : (∃ i j, x = .int i ∧ y = .int j ∧ b = decide (j ≤ i)) ∨ (∃ i j, x = .str i ∧ y = .str j ∧ b = !strLt i j) ∨ ∃ c, ltG x y = some c ∧ b = !c := by
  unfold geD at h
  split at h
  · exact .inl ⟨_, _, rfl, rfl, (Option.some.inj h).symm⟩
  · exact .inr (.inl ⟨_, _, rfl, rfl, (Option.some.inj h).symm⟩)
  · exact .inr (.inr (map_not h))
theorem cmpOk_inv {a b : PyData} (h : cmpOk a b = true) : W.alike a b = true ∧ SeqAt.shaped a = true ∧ SeqAt.shaped b = true ∧ a ≠ .none := by
  unfold cmpOk at h
  rw [Bool.and_eq_true, Bool.and_eq_true, Bool.and_eq_true] at h
  exact ⟨h.1.1.1, h.1.1.2, h.1.2, fun z => by rw [z] at h; cases h.2⟩
theorem ltG_reads {pins : List (Addr × Obj)} {s : Shared} {σ : L2.St} {H F : Hp} {x y : V} {v u : Value} {d1 d2 : D} {b : Bool} (I : Inv X pins σ H s) (rx : RelV x v) (ry : RelV y u) (sb : Sub F H)
    (r1 : RepQ (gd X ad) true F H d1 x) (r2 : RepQ (gd X ad) true F H d2 y) (e : ltG d1 d2 = some b) :
    ∃ p q as cs, Reads s.heap v p as ∧ Reads s.heap u q cs ∧ W.alike p q = true ∧ p ≠ .none ∧ min p.depth q.depth ≤ 64 ∧ b = W.dataLt p q := by
  unfold ltG at e
  cases e1 : d1.py with
  | none => rw [e1] at e; cases e
  | some p =>
    cases e2 : d2.py with
    | none => rw [e1, e2] at e; cases e
    | some q =>
      rw [e1, e2] at e
      obtain ⟨h1, h2⟩ := grd_some e
      obtain ⟨c1, c2, c3, c4⟩ := cmpOk_inv h1
      obtain ⟨as, ra⟩ := Dp.reads I p x v (rq_dp r1 sb e1) rx
      obtain ⟨cs, rc⟩ := Dp.reads I q y u (rq_dp r2 sb e2) ry
      have := SeqAt.depth_of_shaped c2
      exact ⟨p, q, as, cs, ra, rc, c1, c4, by omega, h2.symm⟩
theorem op_cm (op : COp) (hu : X.A.units + 65 < cLine) : OpR X (compareOp (pyCm op)) (rCmp (gd X ad) op) := by
  intro pins s σ H x y v u Q I rx ry h
  obtain ⟨F, d1, d2, b, sb, r1, r2, e, k⟩ := h
  have hu0 : X.A.units < cLine := by omega
  cases op with
  | eq =>
    obtain ⟨p, q, e1, e2, s1, s2, rfl⟩ := eqD_some e
    exact op_eqD (by omega) pins s σ H _ _ v u Q I rx ry ⟨p, q, rq_dp r1 sb e1, rq_dp r2 sb e2, s1, s2, k⟩
  | ne =>
    obtain ⟨c, ec, rfl⟩ := map_not e
    obtain ⟨p, q, e1, e2, s1, s2, rfl⟩ := eqD_some ec
    exact op_neD (by omega) pins s σ H _ _ v u Q I rx ry ⟨p, q, rq_dp r1 sb e1, rq_dp r2 sb e2, s1, s2, k⟩
  | lt =>
    rcases ltD_cases e with ⟨i, j, rfl, rfl, rfl⟩ | ⟨i, j, rfl, rfl, rfl⟩ | ⟨xs, ys, i1, i2, rfl, rfl, e1, e2, rfl⟩ | e
    · cases rq_int r1; cases rq_int r2
      exact op_lt pins s σ H _ _ v u Q I rx ry ⟨_, _, rfl, rfl, k⟩
    · cases rq_str r1; cases rq_str r2
      exact op_lt_str pins s σ H _ _ v u Q I rx ry ⟨_, _, rfl, rfl, k⟩
    · obtain ⟨p, rfl, h1⟩ := tup_ints r1 sb e1
      obtain ⟨q, rfl, h2⟩ := tup_ints r2 sb e2
      exact op_ltT hu0 pins s σ H _ _ v u Q I rx ry ⟨p, q, i1, i2, rfl, rfl, h1, h2, k⟩
    · obtain ⟨a, c, as, cs, ra, rc, al, hn, hd, rfl⟩ := ltG_reads I rx ry sb r1 r2 e
      exact W.lt_data ra rc al hn (by omega) ⟨.bl _, H, I, rfl, k⟩
  | le =>
    rcases leD_cases (show leD d1 d2 = some b from e) with ⟨i, j, rfl, rfl, rfl⟩ | ⟨i, j, rfl, rfl, rfl⟩ | ⟨b2, e9, rfl⟩
    · cases rq_int r1; cases rq_int r2
      exact op_le pins s σ H _ _ v u Q I rx ry ⟨_, _, rfl, rfl, k⟩
    · cases rq_str r1; cases rq_str r2
      exact op_le_str pins s σ H _ _ v u Q I rx ry ⟨_, _, rfl, rfl, k⟩
    · obtain ⟨a, c, as, cs, ra, rc, al, hn, hd, rfl⟩ := ltG_reads I ry rx sb r2 r1 e9
      exact W.le_data rc ra (by rw [W.alike_comm]; exact al) (W.ne_none_both al hn) (by rw [Nat.min_comm]; omega) ⟨.bl _, H, I, rfl, k⟩
  | gt =>
    rcases gtD_cases (show gtD d1 d2 = some b from e) with ⟨i, j, rfl, rfl, rfl⟩ | ⟨i, j, rfl, rfl, rfl⟩ | e
    · cases rq_int r1; cases rq_int r2
      exact op_gt pins s σ H _ _ v u Q I rx ry ⟨_, _, rfl, rfl, k⟩
    · cases rq_str r1; cases rq_str r2
      exact op_gt_str pins s σ H _ _ v u Q I rx ry ⟨_, _, rfl, rfl, k⟩
    · obtain ⟨a, c, as, cs, ra, rc, al, hn, hd, rfl⟩ := ltG_reads I ry rx sb r2 r1 e
      exact W.gt_data rc ra (by rw [W.alike_comm]; exact al) (W.ne_none_both al hn) (by rw [Nat.min_comm]; omega) ⟨.bl _, H, I, rfl, k⟩
  | ge =>
    rcases geD_cases (show geD d1 d2 = some b from e) with ⟨i, j, rfl, rfl, rfl⟩ | ⟨i, j, rfl, rfl, rfl⟩ | ⟨b2, e9, rfl⟩
    · cases rq_int r1; cases rq_int r2
      exact op_ge pins s σ H _ _ v u Q I rx ry ⟨_, _, rfl, rfl, k⟩
    · cases rq_str r1; cases rq_str r2
      exact op_ge_str pins s σ H _ _ v u Q I rx ry ⟨_, _, rfl, rfl, k⟩
    · obtain ⟨a, c, as, cs, ra, rc, al, hn, hd, rfl⟩ := ltG_reads I rx ry sb r1 r2 e9
      exact W.ge_data ra rc al hn (by omega) ⟨.bl _, H, I, rfl, k⟩
  | is =>
    cases d1 <;> cases d2 <;> try (cases e; done)
    cases rq_bl r1; cases rq_bl r2; cases e
    exact op_isBl pins s σ H _ _ v u Q I rx ry ⟨_, _, rfl, rfl, k⟩
  | isnot =>
    cases d1 <;> cases d2 <;> try (cases e; done)
    cases rq_bl r1; cases rq_bl r2; cases e
    exact op_notBl pins s σ H _ _ v u Q I rx ry ⟨_, _, rfl, rfl, k⟩
  | in_ => exact run_in hu I rx ry sb r1 r2 e k
  | notin =>
    obtain ⟨c, ec, rfl⟩ := map_not e
    exact run_notin hu I rx ry sb r1 r2 ec k

/-! ### places, slices -/
def rIx' (g : Gd) : R2 := fun x y H Q => ∃ F d1 d2 d, Sub F H ∧ RepQ g true F H d1 x ∧ RepQ g true F H d2 y ∧ ixD d1 d2 = some d ∧ ∀ v, Rep g F d v → Q v H
theorem atI_rep {g : Gd} {F : Hp} {ds : List D} {vs : List V} {i : Int} {d : D} (t : Reps g F ds vs) (e : atI ds i = some d) : ∃ v, atI vs i = some v ∧ Rep g F d v := by
  unfold atI at e ⊢
  rw [t.len]
  cases q : ixN ds.length i with
  | none => rw [q] at e; cases e
  | some j =>
    rw [q] at e
    exact t.get e
theorem isTup_of {pins : List (Addr × Obj)} {σ : L2.St} {H : Hp} {s : Shared} {p : Addr} {o : Option V} {x : V} (I : Inv X pins σ H s) (g : DGet H p x o) : s.TypeIs (.ref p) "dict" := dict_typeIs I g
theorem ix_any (hu : X.A.units + 1 < cLine) : IxR X (rIx' (gd X ad)) := by
  intro value slice pins s σ H x y v u Q I rx ry h hs
  obtain ⟨F, d1, d2, d, sb, r1, r2, e, k⟩ := h
  cases d1 with
  | tup ds =>
    cases d2 <;> try (cases e; done)
    obtain ⟨p, vs, rfl, h1, t, l⟩ := rq_tup r1 sb
    cases rq_int r2
    obtain ⟨w, e1, r⟩ := atI_rep t e
    exact ix_tup value slice pins s σ H _ _ v u Q I rx ry ⟨p, vs, _, w, rfl, rfl, .of h1, e1, k w r⟩ hs
  | lst ds =>
    cases d2 <;> try (cases e; done)
    obtain ⟨p, vs, rfl, h1, t, l⟩ := rq_lst r1 sb
    cases rq_int r2
    obtain ⟨w, e1, r⟩ := atI_rep t e
    exact ix_list value slice pins s σ H _ _ v u Q I rx ry ⟨p, vs, _, w, rfl, rfl, .of h1, e1, k w r⟩ hs
  | ilst is =>
    cases d2 <;> try (cases e; done)
    rename_i i
    have e' : (atI is i).map D.int = some d := e
    obtain ⟨p, rfl, h1, l⟩ := rq_ilst r1 sb
    cases rq_int r2
    cases q : atI is i with
    | none => rw [q] at e'; cases e'
    | some z =>
      rw [q] at e'
      cases e'
      have e1 : atI (is.map V.int) i = some (.int z) := by
        unfold atI at q ⊢
        rw [List.length_map]
        cases q2 : ixN is.length i with
        | none => rw [q2] at q; cases q
        | some j =>
          rw [q2] at q
          show (is.map V.int)[j]? = _
          rw [List.getElem?_map]
          have q : is[j]? = some z := q
          rw [q]
          rfl
      exact ix_list value slice pins s σ H _ _ v u Q I rx ry ⟨p, _, _, .int z, rfl, rfl, h1, e1, k _ rfl⟩ hs
  | str z =>
    cases d2 <;> try (cases e; done)
    rename_i i
    have e' : (match szOk z.length, L2.atI z.cps.toList i with | true, some c => some (D.str ⟨#[c]⟩) | _, _ => none) = some d := e
    cases h1 : szOk z.length with
    | false => rw [h1] at e'; cases e'
    | true =>
      cases h2 : L2.atI z.cps.toList i with
      | none => rw [h1, h2] at e'; cases e'
      | some c =>
        rw [h1, h2] at e'
        cases e'
        cases rq_str r1; cases rq_int r2
        exact ix_str value slice pins s σ H _ _ v u Q I rx ry ⟨z, i, c, rfl, rfl, szOk_le h1, h2, k _ rfl⟩ hs
  | dicK ks ds =>
    have e' : (match d2.key with | some k => lookK ks ds k | none => none) = some d := by cases d2 <;> exact e
    cases h1 : d2.key with
    | none => rw [h1] at e'; cases e'
    | some kk =>
      rw [h1] at e'
      obtain ⟨p, o, rfl, g, z, f⟩ := dget_K sb r1 r2 h1
      obtain ⟨w, rfl, r⟩ := f d e'
      cases (show v = Value.ref p from rx)
      exact tail_any (dict_typeIs I g) PySem.F.slot_dict_getitem.lookup (d_getItem hu I g ry fun w' s' I' r' => ⟨w, H, I', r', k w r⟩) hs
  | dicT ks ds =>
    cases d2 <;> try (cases e; done)
    rename_i es
    have e' : (match keysOf es with | some k => lookK ks ds k | none => none) = some d := e
    cases h1 : keysOf es with
    | none => rw [h1] at e'; cases e'
    | some kk =>
      rw [h1] at e'
      obtain ⟨q, vs, rfl, hq, t, _⟩ := rq_tup r2 sb
      rw [keysOf_V t h1] at hq
      obtain ⟨p, o, rfl, g, z, f⟩ := dget_T sb r1 ⟨q, rfl, hq⟩
      obtain ⟨w, rfl, r⟩ := f d e'
      cases (show v = Value.ref p from rx)
      exact tail_any (dict_typeIs I g) PySem.F.slot_dict_getitem.lookup (d_getItem hu I g ry fun w' s' I' r' => ⟨w, H, I', r', k w r⟩) hs
  | _ => cases d2 <;> cases e
def rSl' (g : Gd) : V → Option Int → Option Int → Hp → VK → Prop := fun x lo hi H Q => ∃ F d1 d, Sub F H ∧ RepQ g true F H d1 x ∧ slD d1 lo hi = some d ∧ KontX g F H d Q
theorem cut_eq {g : Gd} {F : Hp} {ds : List D} {vs : List V} (lo hi : Option Int) (t : Reps g F ds vs) : Reps g F (cut ds lo hi) (cutV vs lo hi) := by
  unfold cut cutV
  rw [t.len]
  exact (t.drop _).take _
theorem cut_len {α : Type} (xs : List α) (lo hi : Option Int) : (cut xs lo hi).length ≤ xs.length := by
  unfold cut
  rw [List.length_take, List.length_drop]
  omega
theorem sl_any : SlR X (rSl' (gd X ad)) := by
  intro pins s σ H x v vl vu lo hi sl Q I rx hs pl pu h
  obtain ⟨F, d1, d, sb, r1, e, k⟩ := h
  cases d1 with
  | tup ds =>
    cases (show some (D.tup (cut ds lo hi)) = some d from e)
    obtain ⟨p, vs, rfl, h1, t, l⟩ := rq_tup r1 sb
    have e1 := t.len
    refine sl_tupA pins s σ H _ v vl vu lo hi sl Q I rx hs pl pu ⟨p, vs, rfl, .of h1, fun z => ?_, fun z q hq => k.2 _ _ hq (rep_tup (sb.free hq) (cut_eq lo hi t) (Nat.le_trans (cut_len ds lo hi) l))⟩
    refine k.1 _ ?_
    rw [e1] at z
    have e2 : cut ds lo hi = ds := by
      unfold cut
      rw [z.1, z.2, List.drop_zero, Nat.sub_zero, List.take_length]
    rw [e2]
    rcases r1 with r1 | ⟨_, _, _, _, z⟩
    · exact r1
    · exact z.elim
  | lst ds =>
    cases (show some (D.lst (cut ds lo hi)) = some d from e)
    obtain ⟨p, vs, rfl, h1, t, l⟩ := rq_lst r1 sb
    exact sl_list pins s σ H _ v vl vu lo hi sl Q I rx hs pl pu ⟨p, vs, rfl, .of h1, fun q hq => k _ _ hq (own_lst (cut_eq lo hi t) (Nat.le_trans (cut_len ds lo hi) l))⟩
  | str z =>
    obtain ⟨h1, rfl⟩ := grd_some (show grd (szOk z.length) (D.str ⟨(cut z.cps.toList lo hi).toArray⟩) = some d from e)
    cases rq_str r1
    refine sl_str pins s σ H _ v vl vu lo hi sl Q I rx hs pl pu ⟨z, rfl, szOk_le h1, ?_⟩
    have e2 : cutS z lo hi = ⟨(cut z.cps.toList lo hi).toArray⟩ := by
      unfold cutS cut
      rw [show z.cps.toList.length = z.length from Array.length_toList]
    rw [e2]
    exact k.1 _ rfl
  | _ => cases e
end
end Cr
/-! Tuples of ints in order. -/
namespace Cr
open PySem PySem.Spec PyProof.Rows L2

theorem lex_irr : ∀ a : List Int, HT.lexLt a a = false
  | [] => rfl
  | x :: xs => by
    rw [HT.lexLt_cons, if_pos rfl]
    exact lex_irr xs
theorem lex_asym : ∀ {a b : List Int}, HT.lexLt a b = true → HT.lexLt b a = false
  | [], [], h => by cases h
  | [], _ :: _, _ => rfl
  | _ :: _, [], h => by cases h
  | x :: xs, y :: ys, h => by
    rw [HT.lexLt_cons] at h ⊢
    by_cases e : x = y
    · rw [if_pos e] at h
      rw [if_pos e.symm]
      exact lex_asym h
    · rw [if_neg e, decide_eq_true_eq] at h
      rw [if_neg (fun z => e z.symm)]
      exact decide_eq_false (by omega)
theorem lex_ntr : ∀ {a b c : List Int}, HT.lexLt a b = false → HT.lexLt b c = false → HT.lexLt a c = false
  | [], [], c, _, h => h
  | [], _ :: _, _, h, _ => by cases h
  | _ :: _, _, [], _, _ => rfl
  | _ :: _, [], _ :: _, _, h => by cases h
  | x :: xs, y :: ys, z :: zs, h1, h2 => by
    rw [HT.lexLt_cons] at h1 h2 ⊢
    by_cases e : x = y
    · subst e
      rw [if_pos rfl] at h1
      by_cases e2 : x = z
      · rw [if_pos e2] at h2 ⊢
        exact lex_ntr h1 h2
      · rw [if_neg e2] at h2 ⊢
        exact h2
    · rw [if_neg e] at h1
      have h1' : ¬ x < y := of_decide_eq_false h1
      by_cases e2 : y = z
      · subst e2
        rw [if_neg e]
        exact h1
      · rw [if_neg e2] at h2
        have h2' : ¬ y < z := of_decide_eq_false h2
        rw [if_neg (by omega)]
        exact decide_eq_false (by omega)
theorem lex_tot : ∀ {a b : List Int}, HT.lexLt a b = false → HT.lexLt b a = false → a = b
  | [], [], _, _ => rfl
  | [], _ :: _, h, _ => by cases h
  | _ :: _, [], _, h => by cases h
  | x :: xs, y :: ys, h1, h2 => by
    rw [HT.lexLt_cons] at h1 h2
    by_cases e : x = y
    · subst e
      rw [if_pos rfl] at h1 h2
      rw [lex_tot h1 h2]
    · rw [if_neg e] at h1
      rw [if_neg (fun z => e z.symm)] at h2
      have := of_decide_eq_false h1
      have := of_decide_eq_false h2
      omega
/-- in order: none behind is less -/
def SrtL (l : List (List Int)) : Prop := l.Pairwise fun a b => HT.lexLt b a = false
theorem insS_perm (x : List Int) : ∀ l, (insS x l).Perm (x :: l)
  | [] => .refl _
  | y :: r => by
    unfold insS
    split
    · exact ((insS_perm x r).cons y).trans (List.Perm.swap x y r)
    · exact .refl _
theorem sortS_perm : ∀ l, (sortS l).Perm l
  | [] => .refl _
  | x :: r => (insS_perm x _).trans ((sortS_perm r).cons x)
theorem insS_srt (x : List Int) : ∀ l, SrtL l → SrtL (insS x l)
  | [], _ => List.pairwise_singleton _ _
  | y :: r, h => by
    unfold insS
    obtain ⟨h1, h2⟩ := List.pairwise_cons.mp h
    split
    · rename_i hlt
      refine List.pairwise_cons.mpr ⟨fun z hz => ?_, insS_srt x r h2⟩
      rcases List.mem_cons.mp ((insS_perm x r).mem_iff.mp hz) with rfl | hz
      · exact lex_asym hlt
      · exact h1 z hz
    · rename_i hlt
      have hlt : HT.lexLt y x = false := by simpa using hlt
      refine List.pairwise_cons.mpr ⟨fun z hz => ?_, h⟩
      rcases List.mem_cons.mp hz with rfl | hz
      · exact hlt
      · exact lex_ntr (h1 z hz) hlt
theorem sortS_srt : ∀ l, SrtL (sortS l)
  | [] => .nil
  | x :: r => insS_srt x _ (sortS_srt r)
theorem srtL_uniq : ∀ {l m : List (List Int)}, l.Perm m → SrtL l → SrtL m → l = m
  | [], m, p, _, _ => (List.nil_perm.mp p).symm ▸ rfl
  | x :: l, [], p, _, _ => absurd p.length_eq (by simp)
  | x :: l, y :: m, p, h, k => by
    obtain ⟨h1, h2⟩ := List.pairwise_cons.mp h
    obtain ⟨k1, k2⟩ := List.pairwise_cons.mp k
    have e : x = y := by
      have hx : x ∈ y :: m := p.mem_iff.mp List.mem_cons_self
      have hy : y ∈ x :: l := p.mem_iff.mpr List.mem_cons_self
      rcases List.mem_cons.mp hx with e | hx
      · exact e
      · rcases List.mem_cons.mp hy with e | hy
        · exact e.symm
        · exact lex_tot (k1 _ hx) (h1 _ hy)
    subst e
    rw [srtL_uniq (List.Perm.cons_inv p) h2 k2]
theorem sortS_uniq {a l : List (List Int)} (hp : a.Perm l) (h : SrtL a) : a = sortS l := srtL_uniq (hp.trans (sortS_perm l).symm) h (sortS_srt l)

theorem insI_perm (x : Int) : ∀ l : List Int, (insI x l).Perm (x :: l)
  | [] => .refl _
  | y :: r => by
    unfold insI
    split
    · exact .refl _
    · exact ((insI_perm x r).cons y).trans (.swap x y r)
theorem sortI_perm : ∀ l : List Int, (sortI l).Perm l
  | [] => .refl _
  | x :: r => (insI_perm x (sortI r)).trans ((sortI_perm r).cons x)
theorem insI_srt (x : Int) : ∀ l : List Int, l.Pairwise (· ≤ ·) → (insI x l).Pairwise (· ≤ ·)
  | [], _ => by simp [insI]
  | y :: r, h => by
    unfold insI
    obtain ⟨h1, h2⟩ := List.pairwise_cons.mp h
    split
    · rename_i hx
      refine List.pairwise_cons.mpr ⟨fun z hz => ?_, h⟩
      rcases List.mem_cons.mp hz with rfl | hz
      · exact hx
      · have := h1 z hz
        omega
    · rename_i hx
      refine List.pairwise_cons.mpr ⟨fun z hz => ?_, insI_srt x r h2⟩
      rcases List.mem_cons.mp ((insI_perm x r).mem_iff.mp hz) with rfl | hz
      · omega
      · exact h1 z hz
theorem sortI_srt : ∀ l : List Int, (sortI l).Pairwise (· ≤ ·)
  | [] => .nil
  | x :: r => insI_srt x _ (sortI_srt r)
theorem sortI_uniq {a l : List Int} (hp : a.Perm l) (h : a.Pairwise (· ≤ ·)) : a = sortI l := PySem.W.ksm_same (hp.trans (sortI_perm l).symm) h (sortI_srt l)

/-- a tuple of ints in the heap -/
def IsTI (h : Heap) (v : Value) (ns : List Int) : Prop := ∃ a o its n, v = .ref a ∧ h.get? a = some o ∧ o.cls = .type "tuple" ∧ o.data = .seq (List.toArray its) n ∧ IntsAre its ns
theorem IsTI.keeps {h h' : Heap} {v : Value} {ns : List Int} (p : IsTI h v ns) (k : ∀ b o, h.get? b = some o → o.cls = .type "tuple" → h'.get? b = some o) : IsTI h' v ns := by
  obtain ⟨a, o, its, n, e, ho, hc, hd, hi⟩ := p
  exact ⟨a, o, its, n, e, k _ _ ho hc, hc, hd, hi⟩
section
variable {prog : Program} {w : World} {A : Around} {E : Value → Shared → Prop} {s : Shared}
theorem katlex_ints {b : Bool} {Q : Bool → Shared → Prop} {its : List Value} {ns : List Int} (hx : IntsAre its ns) : ∀ {its' : List Value} {ms : List Int} (i : Nat), IntsAre its' ms → ∀ fin : Bool, fin = decide (its.length < its'.length) → Q (HT.lexLt ns ms) s → PySem.W.KatLex prog w A b fin Q (its.zip its') i s := by
  induction hx with
  | nil =>
    intro its' ms i hy fin hf h
    cases hy with
    | nil =>
      subst hf
      exact PySem.W.kat_nil h
    | cons q u hy =>
      subst hf
      refine PySem.W.kat_nil ?_
      rw [HT.lexLt_nil_cons] at h
      simpa using h
  | @cons p t xs ns hx ih =>
    intro its' ms i hy fin hf h
    cases hy with
    | nil =>
      subst hf
      refine PySem.W.kat_nil ?_
      rw [HT.lexLt_cons_nil] at h
      simpa using h
    | @cons q u ys ms hy =>
      refine PySem.W.kat_cons (SeqAt.EqAt.int_int p t q u prog w _ _ ?_)
      refine PySem.W.kat_go (fun e1 => ?_) (fun e1 => ?_)
      · have ex : p = q := by simpa using e1
        refine PySem.W.kat_yes (ih (i + 1) hy fin (by simpa using hf) ?_)
        rw [HT.lexLt_cons, if_pos ex] at h
        exact h
      · have ex : ¬ p = q := by simpa using e1
        rw [HT.lexLt_cons, if_neg ex] at h
        exact PySem.W.kat_no (TS.oneLt_ints _ h)
theorem swo_lexK (k : Value → List Int) : SrtO.Swo fun v u => HT.lexLt (k v) (k u) := ⟨fun _ _ h => lex_asym h, fun _ _ _ h1 h2 => lex_ntr h2 h1⟩
theorem tup_cmp {vs : List Value} {k : Value → List Int} (hp : ∀ v ∈ vs, IsTI s.heap v (k v)) : SrtO.Cmp prog w A s (tuples' true) (fun p => p.1 ∈ vs) (SrtO.lt2 fun v u => HT.lexLt (k v) (k u)) := by
  intro p q hm hm'
  obtain ⟨a, o, its, n, e, ho, hc, hd, hi⟩ := hp _ hm
  obtain ⟨a', o', its', n', e', ho', hc', hd', hi'⟩ := hp _ hm'
  show wpAny (model prog w) A (keyLt' (tuples' true) p.1 q.1) (fun r s' => s' = s ∧ r = HT.lexLt (k p.1) (k q.1)) (fun _ _ => False) s
  generalize k p.1 = ns at hi ⊢
  generalize k q.1 = ms at hi' ⊢
  rw [e, e']
  refine PySem.W.kat_lt ho hd ho' hd' ?_
  exact katlex_ints hi 0 hi' _ (by simp) ⟨rfl, rfl⟩
theorem firstsT {h : Heap} : ∀ {vs : List Value}, (∀ v ∈ vs, ∃ ns, IsTI h v ns ∧ ns ≠ []) → ∃ fs : List Value, PySem.W.KatTups h vs fs ∧ fs.length = vs.length ∧ ∀ f ∈ fs, ∃ x t, f = Value.int x t
  | [], _ => ⟨[], PySem.W.KatTups.nil, rfl, fun _ hm => by simp at hm⟩
  | v :: vs, hp => by
    obtain ⟨fs, h1, h2, h3⟩ := firstsT (vs := vs) fun v' hm => hp v' (List.mem_cons_of_mem _ hm)
    obtain ⟨ns, ⟨a, o, its, n, e, ho, hc, hd, hi⟩, hne⟩ := hp v (List.mem_cons_self ..)
    subst e
    cases hi with
    | nil => exact absurd rfl hne
    | @cons x t its ns hi =>
      refine ⟨.int x t :: fs, PySem.W.KatTups.cons ho hc hd rfl h1, by rw [List.length_cons, List.length_cons, h2], fun f hm => ?_⟩
      rcases List.mem_cons.mp hm with rfl | hm
      · exact ⟨x, t, rfl⟩
      · exact h3 f hm
theorem tups_sortable {a : Addr} {vs : List Value} {k : Value → List Int} (h0 : 0 < vs.length) (hp : ∀ v ∈ vs, IsTI s.heap v (k v) ∧ k v ≠ []) (ha : ∀ o, s.heap.get? a = some o → o.cls ≠ .type "tuple") : SrtO.SortableO prog w A s a vs fun v u => HT.lexLt (k v) (k u) := by
  intro h' keep
  have hp' : ∀ v ∈ vs, IsTI h' v (k v) := fun v hm => (hp v hm).1.keeps fun b o e c => keep b o (fun z => by subst z; exact ha o e c) e
  obtain ⟨fs, h1, h2, h3⟩ := firstsT (h := h') fun v hm => ⟨k v, hp' v hm, (hp v hm).2⟩
  refine ⟨tuples' true, fun Q E hq => ?_, tup_cmp hp'⟩
  refine PySem.W.kat_kind (T := .type "int") h1 (by omega) (fun f hm => ?_) (by rfl) ?_
  · obtain ⟨x, t, rfl⟩ := h3 f hm
    exact PySem.W.Looks.now
  · have e : (Value.type "int" != Value.type "tuple") = true := by first | decide +kernel | rfl | decide
    rw [e]
    exact hq
end

/-! ### data as trees -/
mutual
theorem py_inj : ∀ (x y : D) (p : PyData), x.py = some p → y.py = some p → x = y
  | .non, y, p, h, k => by
    cases (show some PyData.none = some p from h)
    cases y <;> first | rfl | (cases k; done) | skip
    all_goals
      rename_i ds
      first
      | (have k' : (D.pys ds).map PyData.tuple = some .none := k; cases e : D.pys ds <;> rw [e] at k' <;> cases k')
      | (have k' : (D.pys ds).map PyData.list = some .none := k; cases e : D.pys ds <;> rw [e] at k' <;> cases k')
  | .bl b, y, p, h, k => by
    cases (show some (PyData.bool b) = some p from h)
    cases y <;> first | (cases k; rfl) | (cases k; done) | skip
    all_goals
      rename_i ds
      first
      | (have k' : (D.pys ds).map PyData.tuple = some (.bool b) := k; cases e : D.pys ds <;> rw [e] at k' <;> cases k')
      | (have k' : (D.pys ds).map PyData.list = some (.bool b) := k; cases e : D.pys ds <;> rw [e] at k' <;> cases k')
  | .int b, y, p, h, k => by
    cases (show some (PyData.int b) = some p from h)
    cases y <;> first | (cases k; rfl) | (cases k; done) | skip
    all_goals
      rename_i ds
      first
      | (have k' : (D.pys ds).map PyData.tuple = some (.int b) := k; cases e : D.pys ds <;> rw [e] at k' <;> cases k')
      | (have k' : (D.pys ds).map PyData.list = some (.int b) := k; cases e : D.pys ds <;> rw [e] at k' <;> cases k')
  | .str b, y, p, h, k => by
    cases (show some (PyData.str b) = some p from h)
    cases y <;> first | (cases k; rfl) | (cases k; done) | skip
    all_goals
      rename_i ds
      first
      | (have k' : (D.pys ds).map PyData.tuple = some (.str b) := k; cases e : D.pys ds <;> rw [e] at k' <;> cases k')
      | (have k' : (D.pys ds).map PyData.list = some (.str b) := k; cases e : D.pys ds <;> rw [e] at k' <;> cases k')
  | .tup xs, y, p, h, k => by
    have h' : (D.pys xs).map PyData.tuple = some p := h
    cases e1 : D.pys xs with
    | none => rw [e1] at h'; cases h'
    | some ps =>
      rw [e1] at h'
      cases h'
      cases y <;> try (cases k; done)
      · rename_i ys
        have k' : (D.pys ys).map PyData.tuple = some (.tuple ps) := k
        cases e2 : D.pys ys with
        | none => rw [e2] at k'; cases k'
        | some qs =>
          rw [e2] at k'
          cases k'
          rw [pys_inj xs ys _ e1 e2]
      · rename_i ys
        have k' : (D.pys ys).map PyData.list = some (.tuple ps) := k
        cases e2 : D.pys ys <;> rw [e2] at k' <;> cases k'
  | .lst xs, y, p, h, k => by
    have h' : (D.pys xs).map PyData.list = some p := h
    cases e1 : D.pys xs with
    | none => rw [e1] at h'; cases h'
    | some ps =>
      rw [e1] at h'
      cases h'
      cases y <;> try (cases k; done)
      · rename_i ys
        have k' : (D.pys ys).map PyData.tuple = some (.list ps) := k
        cases e2 : D.pys ys <;> rw [e2] at k' <;> cases k'
      · rename_i ys
        have k' : (D.pys ys).map PyData.list = some (.list ps) := k
        cases e2 : D.pys ys with
        | none => rw [e2] at k'; cases k'
        | some qs =>
          rw [e2] at k'
          cases k'
          rw [pys_inj xs ys _ e1 e2]
  | .dicK _ _, _, _, h, _ => by cases h
  | .dicT _ _, _, _, h, _ => by cases h
  | .fn _, _, _, h, _ => by cases h
  | .drw, _, _, h, _ => by cases h
  | .ilst _, _, _, h, _ => by cases h
theorem pys_inj : ∀ (xs ys : List D) (ps : List PyData), D.pys xs = some ps → D.pys ys = some ps → xs = ys
  | [], ys, ps, h, k => by
    cases (show some [] = some ps from h)
    cases ys with
    | nil => rfl
    | cons y ys =>
      have k' : (match y.py, D.pys ys with | some p, some ps => some (p :: ps) | _, _ => none) = some [] := k
      cases e1 : y.py <;> cases e2 : D.pys ys <;> rw [e1, e2] at k' <;> cases k'
  | x :: xs, ys, ps, h, k => by
    have h' : (match x.py, D.pys xs with | some p, some ps => some (p :: ps) | _, _ => none) = some ps := h
    cases e1 : x.py with
    | none => rw [e1] at h'; cases h'
    | some p =>
      cases e2 : D.pys xs with
      | none => rw [e1, e2] at h'; cases h'
      | some qs =>
        rw [e1, e2] at h'
        cases h'
        cases ys with
        | nil => cases k
        | cons y ys =>
          have k' : (match y.py, D.pys ys with | some p, some ps => some (p :: ps) | _, _ => none) = some (p :: qs) := k
          cases e3 : y.py with
          | none => rw [e3] at k'; cases k'
          | some p' =>
            cases e4 : D.pys ys with
            | none => rw [e3, e4] at k'; cases k'
            | some qs' =>
              rw [e3, e4] at k'
              cases k'
              rw [py_inj x y _ e1 e3, pys_inj xs ys _ e2 e4]
end
theorem tups_len {ds : List D} {ts : List (List Int)} : tupsOf ds = some ts → ts.length = ds.length := by
  induction ds generalizing ts with
  | nil => intro e; cases e; rfl
  | cons d ds ih =>
    intro e
    cases d <;> try (cases e; done)
    rename_i es
    have e' : (match intsOf es, tupsOf ds with | some i, some is => some (i :: is) | _, _ => none) = some ts := e
    cases q1 : intsOf es with
    | none => rw [q1] at e'; cases e'
    | some i =>
      cases q2 : tupsOf ds with
      | none => rw [q1, q2] at e'; cases e'
      | some is =>
        rw [q1, q2] at e'
        cases e'
        simp [ih q2]
/-- a value's ints, by what is known -/
def kT (F : Hp) : V → List Int
  | .ref p => match F p with
    | some (.tup vs) => vs.map fun v => match v with
      | .int i => i
      | _ => 0
    | _ => []
  | _ => []
theorem kT_ref {F : Hp} {p : Addr} {is : List Int} (h : F p = some (.tup (is.map V.int))) : kT F (.ref p) = is := by
  unfold kT
  dsimp only
  rw [h]
  dsimp only
  rw [List.map_map]
  exact List.map_id _
theorem reps_tups {g : Gd} {F : Hp} : ∀ {ds : List D} {vs : List V} {ts : List (List Int)}, Reps g F ds vs → tupsOf ds = some ts → vs.map (kT F) = ts ∧ ∀ v ∈ vs, ∃ p, v = .ref p ∧ F p = some (.tup ((kT F v).map V.int)) ∧ (kT F v).length ≤ sizeLine
  | [], vs, ts, h, e => by
    cases (show vs = [] from h)
    cases (show some [] = some ts from e)
    exact ⟨rfl, fun _ h => nomatch h⟩
  | d :: ds, vs, ts, h, e => by
    obtain ⟨w, ws, rfl, r, t⟩ := h
    cases d <;> try (cases e; done)
    rename_i es
    have e' : (match intsOf es, tupsOf ds with | some i, some is => some (i :: is) | _, _ => none) = some ts := e
    cases q1 : intsOf es with
    | none => rw [q1] at e'; cases e'
    | some i =>
      cases q2 : tupsOf ds with
      | none => rw [q1, q2] at e'; cases e'
      | some is =>
        rw [q1, q2] at e'
        cases e'
        obtain ⟨l, a, vs, rfl, k, rr⟩ := r
        obtain ⟨ih1, ih2⟩ := reps_tups t q2
        have hv := rr.ints q1
        rw [hv] at k
        refine ⟨by rw [List.map_cons, kT_ref k, ih1], fun v hv' => ?_⟩
        rcases List.mem_cons.mp hv' with rfl | hv'
        · refine ⟨a, rfl, by rw [kT_ref k]; exact k, ?_⟩
          rw [kT_ref k, ints_len q1]
          exact l
        · exact ih2 v hv'
theorem reps_of_tups {g : Gd} {F : Hp} : ∀ {vs : List V}, (∀ v ∈ vs, ∃ p, v = .ref p ∧ F p = some (.tup ((kT F v).map V.int)) ∧ (kT F v).length ≤ sizeLine) → Reps g F ((vs.map (kT F)).map fun t => .tup (t.map .int)) vs
  | [], _ => rfl
  | v :: vs, h => by
    obtain ⟨p, e, k, l⟩ := h v List.mem_cons_self
    refine Reps.cons ⟨by rw [List.length_map]; exact l, p, _, e, k, repInts _⟩ (reps_of_tups fun w hw => h w (List.mem_cons_of_mem _ hw))
def rSrt (g : Gd) : List V → Hp → VK → Prop := fun vs H Q => ∃ F ds es v, Sub F H ∧ vs = [v] ∧ RepQ g true F H (.lst ds) v ∧ sortD ds = some es ∧ KontF g F H (.lst es) Q
section
variable {X : Cx} {ad : Option Addr}
theorem pys_len : ∀ {ds : List D} {ps : List PyData}, D.pys ds = some ps → ps.length = ds.length
  | [], ps, h => by cases (show some [] = some ps from h); rfl
  | d :: ds, ps, h => by
    have h' : (match d.py, D.pys ds with | some p, some ps => some (p :: ps) | _, _ => none) = some ps := h
    cases e1 : d.py with
    | none => rw [e1] at h'; cases h'
    | some p =>
      cases e2 : D.pys ds with
      | none => rw [e1, e2] at h'; cases h'
      | some qs =>
        rw [e1, e2] at h'
        cases h'
        rw [List.length_cons, List.length_cons, pys_len e2]
theorem call_srtT {pins : List (Addr × Obj)} {s : Shared} {σ : L2.St} {H F : Hp} {ds : List D} {ts : List (List Int)} {p : Addr} {vs : List V} {Q : VK} (I : Inv X pins σ H s) (sb : Sub F H) (h1 : H p = some (.lst vs)) (t : Reps (gd X ad) F ds vs) (l : ds.length ≤ sizeLine) (q : tupsOf ds = some ts)
    (hne : ∀ t ∈ ts, t ≠ []) (k : KontF (gd X ad) F H (.lst ((sortS ts).map fun t => .tup (t.map .int))) Q) : wpAny (model X.prog X.w) X.A (call (.builtin "sorted") [.ref p]) (EP X pins σ Q) X.xe s := by
  obtain ⟨e1, e2⟩ := reps_tups t q
  obtain ⟨its, rv, hl, hz⟩ := I.list (.of h1)
  obtain ⟨b1, b2⟩ := refs_back rv fun x m => by
    obtain ⟨p, e, _⟩ := e2 x m
    exact ⟨p, e⟩
  have hti : ∀ v ∈ its, IsTI s.heap v (kT F (backV v)) ∧ kT F (backV v) ≠ [] := fun v hv => by
    have hm : backV v ∈ vs := by rw [b1]; exact List.mem_map.mpr ⟨_, hv, rfl⟩
    obtain ⟨a, rfl⟩ := b2 v hv
    obtain ⟨p', e, kF, _⟩ := e2 _ hm
    cases e
    obtain ⟨_, its2, r2, o, ho, hc, n, hd⟩ := (show ObjOk X.prog X.w H s.heap a (.tup ((kT F (.ref a)).map V.int)) from I.hok _ _ (sb _ _ kF))
    refine ⟨⟨a, o, its2, n, rfl, ho, hc, hd, r2.ints⟩, hne _ ?_⟩
    rw [← e1]
    exact List.mem_map.mpr ⟨_, hm, rfl⟩
  refine SrtO.sorted_ord (swo_lexK fun u => kT F (backV u)) hl.isList (by rw [← rv.length]; exact hz) (fun h2 h₁ a ha kk => ?_) fun out hs hb => ?_
  · refine tups_sortable (s := { s with heap := h₁ }) (by omega) (fun v hm => ⟨(hti v hm).1.keeps fun b o e _ => (kk b o e).2, (hti v hm).2⟩) fun o e => ?_
    have e' : some o = some (seqObj "list" its.toArray 0) := e.symm.trans ha
    cases e'
    intro c
    exact absurd (Value.type.inj c) (by decide)
  · obtain ⟨ep, he'⟩ := PyProof.Rows.sortedAll_at s.heap its out.toArray
    have h3 : ∀ u ∈ out, ∃ a, u = Value.ref a := fun u hu => b2 u (hb.perm.mem_iff.mp hu)
    have hp : (out.map backV).Perm vs := by rw [b1]; exact hb.perm.map _
    have e4 : (out.map backV).map (kT F) = sortS ts := by
      refine sortS_uniq (by rw [← e1]; exact hp.map _) ?_
      unfold SrtL
      rw [List.map_map, List.pairwise_map]
      exact hs
    have hr : Reps (gd X ad) F ((sortS ts).map fun t => .tup (t.map .int)) (out.map backV) := by
      rw [← e4]
      exact reps_of_tups fun v hv => e2 v (hp.mem_iff.mp hv)
    have hlen : (out.map backV).length ≤ sizeLine := by rw [hp.length_eq, t.len]; exact l
    have hfree := I.hok.fresh (show s.heap.objs.size ≤ s.heap.objs.size + 1 from Nat.le_succ _)
    exact ⟨.ref _, upd H (s.heap.objs.size + 1) (.lst (out.map backV)), I.laid (t' := s.toks) (fun _ _ => PyProof.Rows.sortedAll_old) (Nat.le_succ _) ⟨hlen, out, ep, vals_back h3, he'⟩, rfl,
      k _ _ hfree (own_lst hr (by have := hr.len; omega))⟩
theorem reps_zip {g : Gd} {F : Hp} : ∀ {ds : List D} {vs : List V}, Reps g F ds vs → ∀ q ∈ vs.zip ds, Rep g F q.2 q.1
  | [], vs, h => by
    cases (show vs = [] from h)
    intro q hq
    cases hq
  | d :: ds, vs, h => by
    obtain ⟨w, ws, rfl, r, t⟩ := h
    intro q hq
    rcases List.mem_cons.mp hq with rfl | hq
    · exact r
    · exact reps_zip t q hq
theorem reps_of_all {g : Gd} {F : Hp} : ∀ {zs : List (V × D × PyData)}, (∀ q ∈ zs, Rep g F q.2.1 q.1) → Reps g F (zs.map fun q => q.2.1) (zs.map (·.1))
  | [], _ => rfl
  | z :: zs, h => Reps.cons (h z List.mem_cons_self) (reps_of_all fun q hq => h q (List.mem_cons_of_mem _ hq))
theorem allOk_inv {ps : List PyData} (h : allOk ps = true) : W.AllAlike ps ∧ (∀ p ∈ ps, p ≠ .none) ∧ ∀ p ∈ ps, p.depth ≤ 64 := by
  unfold allOk at h
  rw [List.all_eq_true] at h
  have h2 : ∀ a ∈ ps, ∀ b ∈ ps, cmpOk a b = true := fun a ha b hb => List.all_eq_true.mp (h a ha) b hb
  exact ⟨fun a ha b hb => (cmpOk_inv (h2 a ha b hb)).1, fun p hp => (cmpOk_inv (h2 p hp p hp)).2.2.2, fun p hp => SeqAt.depth_of_shaped (cmpOk_inv (h2 p hp p hp)).2.1⟩
theorem srtOk_inv {ps : List PyData} (h : srtOk ps = true) : W.Sortable ps := by
  unfold srtOk at h
  rw [Bool.and_eq_true, Bool.or_eq_true] at h
  obtain ⟨h1, h2 | h2⟩ := h
  · left
    intro d hd
    have := List.all_eq_true.mp h2 d hd
    unfold isTup1 at this
    split at this
    · exact ⟨_, _, rfl⟩
    · cases this
  · right
    intro d hd
    have := List.all_eq_true.mp h2 d hd
    refine ⟨(allOk_inv h1).2.1 d hd, fun xs z => ?_⟩
    rw [z] at this
    cases this
theorem vals_each {vs : List V} {us : List Value} (r : Vals vs us) : W.EachIs (fun u v => RelV v u) us vs := by
  induction r with
  | nil => exact .nil
  | cons h t ih => exact .cons h ih
theorem each_vals {us : List Value} {zs : List (V × D × PyData)} (h : W.EachIs (fun u z => RelV z.1 u) us zs) : Vals (zs.map (·.1)) us := by
  induction h with
  | nil => exact .nil
  | cons h t ih => exact .cons h ih
theorem each_zip {us : List Value} {vs : List V} {ds : List D} {ps : List PyData} (h : W.EachIs (fun u v => RelV v u) us vs) (l1 : vs.length = ds.length) (l2 : ps.length = ds.length) : W.EachIs (fun u (z : V × D × PyData) => RelV z.1 u) us (vs.zip (ds.zip ps)) := by
  induction h generalizing ds ps with
  | nil => exact .nil
  | cons r t ih =>
    cases ds with
    | nil => cases l1
    | cons d ds =>
      cases ps with
      | nil => cases l2
      | cons p ps => exact .cons r (ih (by simpa using l1) (by simpa using l2))
theorem zip3_snd {vs : List V} {ds : List D} {ps : List PyData} (l1 : vs.length = ds.length) (l2 : ps.length = ds.length) : (vs.zip (ds.zip ps)).map (·.2) = ds.zip ps := List.map_snd_zip (by simp; omega)
theorem pys_zip {ds : List D} {ps : List PyData} (h : D.pys ds = some ps) : ∀ q ∈ ds.zip ps, q.1.py = some q.2 := by
  induction ds generalizing ps with
  | nil =>
    intro q hq
    cases hq
  | cons d ds ih =>
    have h' : (match d.py, D.pys ds with | some p, some ps => some (p :: ps) | _, _ => none) = some ps := h
    cases e1 : d.py with
    | none => rw [e1] at h'; cases h'
    | some p =>
      cases e2 : D.pys ds with
      | none => rw [e1, e2] at h'; cases h'
      | some qs =>
        rw [e1, e2] at h'
        cases h'
        intro q hq
        rcases List.mem_cons.mp hq with rfl | hq
        · exact e1
        · exact ih e2 q hq
theorem call_srtG {pins : List (Addr × Obj)} {s : Shared} {σ : L2.St} {H F : Hp} {ds : List D} {ps : List PyData} {p : Addr} {vs : List V} {Q : VK} (hu : X.A.units + 66 < cLine) (I : Inv X pins σ H s) (sb : Sub F H) (h1 : H p = some (.lst vs)) (t : Reps (gd X ad) F ds vs) (l : ds.length ≤ sizeLine) (q : D.pys ds = some ps)
    (ok : srtOk ps = true) (k : KontF (gd X ad) F H (.lst (((ds.zip ps).mergeSort leP).map (·.1))) Q) : wpAny (model X.prog X.w) X.A (call (.builtin "sorted") [.ref p]) (EP X pins σ Q) X.xe s := by
  obtain ⟨its, rv, hl, hz⟩ := I.list (.of h1)
  have l1 := t.len
  have l2 := pys_len q
  have hok : allOk ps = true := (Bool.and_eq_true_iff.mp ok).1
  obtain ⟨a1, a2, a3⟩ := allOk_inv hok
  have hmap : (vs.zip (ds.zip ps)).map (fun z => z.2.2) = ps := by
    have : (vs.zip (ds.zip ps)).map (fun z => z.2.2) = ((vs.zip (ds.zip ps)).map (·.2)).map (·.2) := by rw [List.map_map]; rfl
    rw [this, zip3_snd l1 l2, List.map_snd_zip (by omega)]
  have hrep : ∀ z ∈ vs.zip (ds.zip ps), Rep (gd X ad) F z.2.1 z.1 ∧ z.2.1.py = some z.2.2 := fun z hz => by
    have e := pys_zip q z.2 (by rw [← zip3_snd l1 l2]; exact List.mem_map.mpr ⟨z, hz, rfl⟩)
    refine ⟨?_, e⟩
    have hm : (z.1, z.2.1) ∈ vs.zip ds := by
      have e9 : vs.zip ds = (vs.zip (ds.zip ps)).map (fun z => (z.1, z.2.1)) := by
        refine List.ext_getElem (by simp; omega) fun i h1 h2 => ?_
        simp
      rw [e9]
      exact List.mem_map.mpr ⟨z, hz, rfl⟩
    exact reps_zip t _ hm
  have he := each_zip (vals_each rv) l1 l2
  have her : W.EachIs (fun v (b : V × D × PyData) => ∃ as, Reads s.heap v b.2.2 as) its (vs.zip (ds.zip ps)) := by
    have h9 : W.EachIs (fun v (b : V × D × PyData) => RelV b.1 v ∧ b ∈ vs.zip (ds.zip ps)) its (vs.zip (ds.zip ps)) := W.each_mem he
    exact h9.mono fun u z ⟨r, m⟩ => by
      obtain ⟨r1, r2⟩ := hrep z m
      exact Dp.reads I z.2.2 z.1 u (Rep.dp sb z.2.1 z.1 z.2.2 r1 r2) r
  have hlen : (vs.zip (ds.zip ps)).length = ds.length := by simp; omega
  refine W.sorted_data (enc := fun z : V × D × PyData => z.2.2) hl.isList he her (by rw [hmap]; exact a1) (by rw [hmap]; exact srtOk_inv ok) (by omega) (fun b hb => ?_) fun out ho ho2 => ?_
  · have hm : b.2.2 ∈ ps := by rw [← hmap]; exact List.mem_map.mpr ⟨b, hb, rfl⟩
    have := a3 _ hm
    omega
  · obtain ⟨ep, he'⟩ := PyProof.Rows.sortedAll_at s.heap its out.toArray
    have hv := each_vals ho2
    generalize hM : (vs.zip (ds.zip ps)).mergeSort (W.dataLe false fun z : V × D × PyData => z.2.2) = M at hv
    have hpm : M.Perm (vs.zip (ds.zip ps)) := by rw [← hM]; exact List.mergeSort_perm _ _
    have hr : Reps (gd X ad) F (M.map fun z => z.2.1) (M.map (·.1)) := reps_of_all fun z hz => (hrep z (hpm.mem_iff.mp hz)).1
    have e5 : (M.map fun z => z.2.1) = ((ds.zip ps).mergeSort leP).map (·.1) := by
      have e6 : M.map (·.2) = (ds.zip ps).mergeSort leP := by
        rw [← hM, List.map_mergeSort (s := leP) (fun a _ b _ => ?_), zip3_snd l1 l2]
        rw [W.dataLe_eq]
        rfl
      rw [← e6, List.map_map]
      rfl
    rw [e5] at hr
    have hlen2 : (M.map (·.1)).length ≤ sizeLine := by rw [List.length_map, hpm.length_eq]; omega
    have hfree := I.hok.fresh (show s.heap.objs.size ≤ s.heap.objs.size + 1 from Nat.le_succ _)
    exact ⟨.ref _, upd H (s.heap.objs.size + 1) (.lst (M.map (·.1))), I.laid (t' := s.toks) (fun _ _ => PyProof.Rows.sortedAll_old) (Nat.le_succ _) ⟨hlen2, out, ep, hv, he'⟩, rfl,
      k _ _ hfree (own_lst hr (by have := hr.len; omega))⟩
theorem call_sorted' (hu : X.A.units + 66 < cLine) : CallR X (.builtin "sorted") (rSrt (gd X ad)) := by
  intro pins s σ H xs us Q I r h
  obtain ⟨F, ds, es, v, sb, rfl, r1, e, k⟩ := h
  obtain ⟨p, vs, rfl, h1, t, l⟩ := rq_lst r1 sb
  have hus : us = [.ref p] := Vals.ref1 r
  subst hus
  unfold sortD at e
  cases q : intsOf ds with
  | some is =>
    rw [q] at e
    cases e
    have hl := ints_len q
    rw [t.ints q] at h1
    refine cr_sortedI pins s σ H _ _ Q I r ⟨p, is, rfl, .of h1, fun ns' q' hp hs hq => ?_⟩
    rw [sortI_uniq hp hs]
    refine k _ _ hq (own_lst (repInts _) ?_)
    rw [List.length_map, (sortI_perm is).length_eq, hl]
    exact l
  | none =>
    rw [q] at e
    dsimp only at e
    cases q2 : tupsOf ds with
    | some ts =>
      rw [q2] at e
      obtain ⟨g1, rfl⟩ := grd_some e
      refine call_srtT I sb h1 t l q2 (fun t ht z => ?_) k
      have := List.all_eq_true.mp g1 t ht
      rw [z] at this
      cases this
    | none =>
      rw [q2] at e
      dsimp only at e
      cases q3 : D.pys ds with
      | none => rw [q3] at e; cases e
      | some ps =>
        rw [q3] at e
        obtain ⟨g1, rfl⟩ := grd_some e
        exact call_srtG hu I sb h1 t l q3 g1 k
theorem zipP_fold {f : D × PyData → D × PyData → Bool} {h : PyData → PyData → Bool} (hf : ∀ a b, f a b = h a.2 b.2) : ∀ (xs : List (D × PyData)) (a : D × PyData), (xs.foldl (fun a y => if f a y then y else a) a).2 = (xs.map (·.2)).foldl (fun a y => if h a y then y else a) a.2
  | [], _ => rfl
  | x :: xs, a => by
    rw [List.foldl_cons, List.map_cons, List.foldl_cons, zipP_fold hf xs, hf]
    cases h a.2 x.2 <;> rfl
theorem fold_mem {f : D × PyData → D × PyData → Bool} : ∀ (xs : List (D × PyData)) (a : D × PyData), xs.foldl (fun a y => if f a y then y else a) a ∈ a :: xs
  | [], _ => List.mem_cons_self
  | x :: xs, a => by
    rw [List.foldl_cons]
    have := fold_mem (f := f) xs (if f a x then x else a)
    cases h : f a x with
    | true =>
      rw [h] at this
      exact List.mem_cons_of_mem _ this
    | false =>
      rw [h] at this
      rcases List.mem_cons.mp this with e | m
      · rw [if_neg Bool.false_ne_true] at e
        rw [if_neg Bool.false_ne_true, e]
        exact List.mem_cons_self
      · exact List.mem_cons_of_mem _ (List.mem_cons_of_mem _ m)
/-- the item found is the one that is told -/
theorem best_rep {pins : List (Addr × Obj)} {s : Shared} {σ : L2.St} {H F : Hp} {ds : List D} {ps : List PyData} {vs : List V} {its : List Value} {h' : Heap} {i : Nat} {v : Value} {d : D} {p : PyData} {bs : List Addr} (I : Inv X pins σ H s) (sb : Sub F H) (t : Reps (gd X ad) F ds vs) (q : D.pys ds = some ps) (rv : Vals vs its)
    (hi : its[i]? = some v) (r : Reads h' v p bs) (k : ∀ b o, s.heap.get? b = some o → h'.get? b = some o) (e : d.py = some p) (hc : p.canLay0 = true) : ∃ x, RelV x v ∧ Rep (gd X ad) F d x := by
  have hl : i < its.length := (List.getElem?_eq_some_iff.mp hi).1
  have hl2 : i < vs.length := by rw [rv.length]; exact hl
  obtain ⟨di, ei, ri⟩ := t.get2 (List.getElem?_eq_getElem hl2)
  have rel : RelV vs[i] v := by
    have := (vals_each rv).zip (v, vs[i]) (by
      have : (its.zip vs)[i]? = some (v, vs[i]) := by
        rw [List.getElem?_eq_getElem (by simp; omega)]
        simp only [List.getElem_zip]
        rw [List.getElem?_eq_getElem hl] at hi
        rw [Option.some.inj hi]
      exact List.mem_of_getElem? this)
    exact this
  have hpi : ∃ pi, di.py = some pi := by
    have hm : di ∈ ds := List.mem_of_getElem? ei
    have hz : (ds.zip ps).map (·.1) = ds := List.map_fst_zip (by have := pys_len q; omega)
    rw [← hz] at hm
    obtain ⟨z, hz1, hz2⟩ := List.mem_map.mp hm
    exact ⟨z.2, by rw [← hz2]; exact pys_zip q z hz1⟩
  obtain ⟨pi, epi⟩ := hpi
  obtain ⟨as, rr⟩ := Dp.reads I pi vs[i] v (Rep.dp sb di vs[i] pi ri epi) rel
  have hh := PyProof.Rows.Reads.keeps k rr
  have := PySem.SeqAt.Reads.unique p pi v _ _ hc r hh
  subst this
  have := py_inj di d _ epi e
  subst this
  exact ⟨vs[i], rel, ri⟩
theorem depthAll_le {n : Nat} : ∀ {ps : List PyData}, (∀ p ∈ ps, p.depth ≤ n) → PyData.depthAll ps ≤ n
  | [], _ => by simp [PyData.depthAll]
  | p :: ps, h => by
    rw [PyData.depthAll]
    have h1 := h p List.mem_cons_self
    have h2 := depthAll_le fun q hq => h q (List.mem_cons_of_mem _ hq)
    omega
theorem allOk_lay {ps : List PyData} (h : allOk ps = true) : ∀ p ∈ ps, p.canLay0 = true := by
  intro p hp
  unfold allOk at h
  rw [List.all_eq_true] at h
  exact SeqAt.canLay_of_shaped (cmpOk_inv (List.all_eq_true.mp (h p hp) p hp)).2.1
theorem zip_mem {d : D} {p : PyData} {ds : List D} {ps : List PyData} (q : D.pys (d :: ds) = some (p :: ps)) {x : D × PyData} (h : x ∈ (d, p) :: ds.zip ps) : x.1.py = some x.2 ∧ x.2 ∈ p :: ps := by
  have h1 : x ∈ (d :: ds).zip (p :: ps) := h
  exact ⟨pys_zip q x h1, (List.of_mem_zip h1).2⟩
theorem lst_py_no {d : D} {ds : List D} {p : PyData} (z : d = .lst ds) (e : d.py = some p) (h : (!isLstP p) = true) : False := by
  subst z
  have e' : (D.pys ds).map PyData.list = some p := e
  cases q : D.pys ds with
  | none => rw [q] at e'; cases e'
  | some ps =>
    rw [q] at e'
    cases e'
    cases h
theorem dicK_py_no {d : D} {a : List L2.Key} {b : List D} {p : PyData} (z : d = .dicK a b) (e : d.py = some p) : False := by
  subst z
  cases e
theorem dicT_py_no {d : D} {a : List (List L2.Key)} {b : List D} {p : PyData} (z : d = .dicT a b) (e : d.py = some p) : False := by
  subst z
  cases e
theorem call_minG {pins : List (Addr × Obj)} {s : Shared} {σ : L2.St} {H F : Hp} {ds : List D} {m : D} {a : Addr} {vs : List V} {Q : VK} (hc : X.calm = true) (hu : X.A.units + 66 < cLine) (I : Inv X pins σ H s) (sb : Sub F H) (h1 : H a = some (.lst vs)) (t : Reps (gd X ad) F ds vs) (e : minG ds = some m)
    (k : (∀ ds, m ≠ .lst ds) → (∀ a b, m ≠ .dicK a b) → (∀ a b, m ≠ .dicT a b) → ∀ v, Rep (gd X ad) F m v → Q v H) : wpAny (model X.prog X.w) X.A (call (.builtin "min") [.ref a]) (EP X pins σ Q) X.xe s := by
  obtain ⟨its, rv, hl, hz⟩ := I.list (.of h1)
  cases ds with
  | nil => cases e
  | cons d ds =>
    unfold minG at e
    cases q : D.pys (d :: ds) with
    | none => rw [q] at e; cases e
    | some ps0 =>
      cases ps0 with
      | nil => rw [q] at e; cases e
      | cons p ps =>
        rw [q] at e
        obtain ⟨ok0, rfl⟩ := grd_some e
        obtain ⟨ok, okL⟩ := Bool.and_eq_true_iff.mp ok0
        obtain ⟨a1, a2, a3⟩ := allOk_inv ok
        obtain ⟨as, rr⟩ := Dp.readsAll I (p :: ps) vs its (Reps.dp sb (d :: ds) vs _ t q) rv
        have hd := depthAll_le a3
        refine W.min_list_data (I.ok.hd hc) hl.isList rr ⟨a1, a2⟩ (by omega) fun i v h' tk bs hi r kp => ?_
        have hm := fold_mem (f := fun a y => W.dataLt y.2 a.2) (ds.zip ps) (d, p)
        obtain ⟨e1, e2⟩ := zip_mem q hm
        have e3 : ((ds.zip ps).foldl (fun a y => if W.dataLt y.2 a.2 then y else a) (d, p)).2 = W.minD p ps := by
          rw [zipP_fold (f := fun a y => W.dataLt y.2 a.2) (h := fun a y => W.dataLt y a) (fun _ _ => rfl), List.map_snd_zip (by have := pys_len q; simp at this; omega)]
          rfl
        rw [e3] at e1 e2
        obtain ⟨x, rx, rp⟩ := best_rep I sb t q rv (by simpa using hi) r kp e1 (allOk_lay ok _ e2)
        refine ⟨x, H, I.kept kp, rx, k (fun ds z => ?_) (fun _ _ z => dicK_py_no z e1) (fun _ _ z => dicT_py_no z e1) x rp⟩
        exact lst_py_no z e1 (List.all_eq_true.mp okL _ e2)
theorem call_maxG {pins : List (Addr × Obj)} {s : Shared} {σ : L2.St} {H F : Hp} {ds : List D} {m : D} {a : Addr} {vs : List V} {Q : VK} (hc : X.calm = true) (hu : X.A.units + 66 < cLine) (I : Inv X pins σ H s) (sb : Sub F H) (h1 : H a = some (.lst vs)) (t : Reps (gd X ad) F ds vs) (e : maxG ds = some m)
    (k : (∀ ds, m ≠ .lst ds) → (∀ a b, m ≠ .dicK a b) → (∀ a b, m ≠ .dicT a b) → ∀ v, Rep (gd X ad) F m v → Q v H) : wpAny (model X.prog X.w) X.A (call (.builtin "max") [.ref a]) (EP X pins σ Q) X.xe s := by
  obtain ⟨its, rv, hl, hz⟩ := I.list (.of h1)
  cases ds with
  | nil => cases e
  | cons d ds =>
    unfold maxG at e
    cases q : D.pys (d :: ds) with
    | none => rw [q] at e; cases e
    | some ps0 =>
      cases ps0 with
      | nil => rw [q] at e; cases e
      | cons p ps =>
        rw [q] at e
        obtain ⟨ok0, rfl⟩ := grd_some e
        obtain ⟨ok, okL⟩ := Bool.and_eq_true_iff.mp ok0
        obtain ⟨a1, a2, a3⟩ := allOk_inv ok
        obtain ⟨as, rr⟩ := Dp.readsAll I (p :: ps) vs its (Reps.dp sb (d :: ds) vs _ t q) rv
        have hd := depthAll_le a3
        refine W.max_list_data (I.ok.hd hc) hl.isList rr ⟨a1, a2⟩ (by omega) fun i v h' tk bs hi r kp => ?_
        have hm := fold_mem (f := fun a y => W.dataLt a.2 y.2) (ds.zip ps) (d, p)
        obtain ⟨e1, e2⟩ := zip_mem q hm
        have e3 : ((ds.zip ps).foldl (fun a y => if W.dataLt a.2 y.2 then y else a) (d, p)).2 = W.maxD p ps := by
          rw [zipP_fold (f := fun a y => W.dataLt a.2 y.2) (h := fun a y => W.dataLt a y) (fun _ _ => rfl), List.map_snd_zip (by have := pys_len q; simp at this; omega)]
          rfl
        rw [e3] at e1 e2
        obtain ⟨x, rx, rp⟩ := best_rep I sb t q rv (by simpa using hi) r kp e1 (allOk_lay ok _ e2)
        refine ⟨x, H, I.kept kp, rx, k (fun ds z => ?_) (fun _ _ z => dicK_py_no z e1) (fun _ _ z => dicT_py_no z e1) x rp⟩
        exact lst_py_no z e1 (List.all_eq_true.mp okL _ e2)
end
end Cr
/-! zip and enumerate over lists, tuples and texts in any mix. -/
namespace Cr
open PySem PySem.Spec PyProof.Rows L2

/-- what is walked: a list, a tuple, a text -/
inductive Src where
  | L (a : Addr)
  | T (a : Addr)
  | S (z : Str)
def Src.v : Src → V
  | .L a => .ref a
  | .T a => .ref a
  | .S z => .str z
def Src.has (K : PySem.W.Frag) (H : Hp) : Src → List V → Prop
  | .L a, xs => SqL K H a xs
  | .T a, xs => SqT K H a xs
  | .S z, xs => xs = z.cps.toList.map fun c => V.str ⟨#[c]⟩
/-- its iterator, at i -/
def Src.at (h : Heap) (it : Addr) (i : Nat) : Src → Prop
  | .L a => h.IsListIter it a i
  | .T a => h.IsTupleIter it a i
  | .S z => ∃ t, h.IsStrIter it (strIterType z) z t i
theorem Src.at_obj {h : Heap} {it : Addr} {i : Nat} : ∀ {s : Src}, s.at h it i → ∃ o, h.get? it = some o ∧ ∀ v, o.data ≠ .cell v
  | .L a, ⟨o, e, c, d⟩ => ⟨o, e, fun v z => by rw [d] at z; cases z⟩
  | .T a, ⟨o, e, c, d⟩ => ⟨o, e, fun v z => by rw [d] at z; cases z⟩
  | .S z, ⟨t, o, e, c, d⟩ => ⟨o, e, fun v z => by rw [d] at z; cases z⟩
theorem Src.at_keep {h h' : Heap} {it : Addr} {i : Nat} : ∀ {s : Src}, s.at h it i → (∀ o, h.get? it = some o → h'.get? it = some o) → s.at h' it i
  | .L a, st, k => Heap.IsListIter.at st k
  | .T a, st, k => Heap.IsTupleIter.at st k
  | .S z, ⟨t, o, e, r⟩, k => ⟨t, o, k o e, r⟩
theorem Src.inj {X : Cx} {pins : List (Addr × Obj)} {σ : L2.St} {H : Hp} {s : Shared} (I : Inv X pins σ H s) : ∀ {c : Src} {xs ys : List V}, c.has X.K H xs → c.has X.K H ys → xs = ys
  | .L a, _, _, h1, h2 => I.list_inj h1 h2
  | .T a, _, _, h1, h2 => I.tuple_inj h1 h2
  | .S z, _, _, h1, h2 => h1.trans h2.symm
/-- an address below n that the walked thing has -/
def Src.fp : Src → List Addr
  | .L a => [a]
  | .T a => [a]
  | .S _ => []
/-- what its iterator draws, where it stands -/
theorem Src.draws {X : Cx} {pins : List (Addr × Obj)} {σ : L2.St} {H : Hp} {s : Shared} {A : Around} {it : Addr} (I : Inv X pins σ H s) (hh : A.handled = none) {c : Src} {xs : List V} (h : c.has X.K H xs) (hne : it ∉ c.fp) :
    (∀ b ∈ c.fp, b < s.heap.objs.size) ∧ ∃ (P : Nat → Value → Prop) (St : Nat → Heap → Prop), Draws X.prog X.w A it (it :: c.fp) xs.length P St ∧ (∀ i u, P i u → ∃ x, xs[i]? = some x ∧ RelV x u) ∧ (∀ i, c.at s.heap it i → St i s.heap) ∧ ∀ i h', St i h' → c.at h' it i := by
  cases c with
  | L a =>
    obtain ⟨its, rv, p, _⟩ := I.list h
    have hl : its.toArray.size = xs.length := by rw [List.size_toArray, rv.length]
    refine ⟨fun b hb => by cases List.mem_singleton.mp hb; exact p.lt, ?_⟩
    have D := Draws.list (prog := X.prog) (w := X.w) hh it a (fun e => hne (List.mem_singleton.mpr e.symm)) its.toArray
    rw [hl] at D
    refine ⟨_, _, D, fun i u hu => ?_, fun i st => ⟨st, p.isList⟩, fun i h' st => st.1⟩
    have hi : i < its.length := by
      have := (Array.getElem?_eq_some_iff.mp hu).1
      simpa using this
    have hix : i < xs.length := by rw [rv.length]; exact hi
    obtain ⟨u', hu', ru⟩ := rv.get (List.getElem?_eq_getElem hix)
    have : u' = u := by
      have hu2 : its[i]? = some u := by simpa using hu
      rw [hu2] at hu'
      exact (Option.some.inj hu').symm
    subst this
    exact ⟨_, List.getElem?_eq_getElem hix, ru⟩
  | T a =>
    obtain ⟨its, rv, p, _⟩ := I.tuple h
    have hl : its.toArray.size = xs.length := by rw [List.size_toArray, rv.length]
    obtain ⟨o1, ho1, _⟩ := id p
    refine ⟨fun b hb => by cases List.mem_singleton.mp hb; exact Heap.lt_size ho1, ?_⟩
    have D := Draws.tuple (prog := X.prog) (w := X.w) hh it a (fun e => hne (List.mem_singleton.mpr e.symm)) its.toArray
    rw [hl] at D
    refine ⟨_, _, D, fun i u hu => ?_, fun i st => ⟨st, p⟩, fun i h' st => st.1⟩
    have hi : i < its.length := by
      have := (Array.getElem?_eq_some_iff.mp hu).1
      simpa using this
    have hix : i < xs.length := by rw [rv.length]; exact hi
    obtain ⟨u', hu', ru⟩ := rv.get (List.getElem?_eq_getElem hix)
    have : u' = u := by
      have hu2 : its[i]? = some u := by simpa using hu
      rw [hu2] at hu'
      exact (Option.some.inj hu').symm
    subst this
    exact ⟨_, List.getElem?_eq_getElem hix, ru⟩
  | S z =>
    cases (show xs = _ from h)
    refine ⟨fun b hb => (by cases hb), ?_⟩
    have hl : z.cps.size = (z.cps.toList.map fun c => V.str ⟨#[c]⟩).length := by simp
    refine ⟨fun i v => ∃ c u, z.cps[i]? = some c ∧ v = .str ⟨#[c]⟩ u, fun i h => ∃ t, h.IsStrIter it (strIterType z) z t i, ?_, fun i u hu => ?_, fun i st => st, fun i h' st => st⟩
    · rw [← hl]
      have D := fun t => Draws.text (prog := X.prog) (w := X.w) hh it z t
      exact {
        live := fun i h ⟨t, st⟩ => (D t).live i h st
        frame := fun i h h' ⟨t, st⟩ k => ⟨t, (D t).frame i h h' st k⟩
        item := fun i s Q E hi ⟨t, st⟩ hQ => (D t).item i s Q E hi st fun x h' tk p st' sb => hQ x h' tk p ⟨t, st'⟩ sb
        done := fun s Q E ⟨t, st⟩ hE => (D t).done s Q E st hE }
    · obtain ⟨c, t, hc, rfl⟩ := hu
      refine ⟨V.str ⟨#[c]⟩, ?_, ⟨t, rfl⟩⟩
      have hc2 : z.cps.toList[i]? = some c := by simpa using hc
      rw [List.getElem?_map, hc2]
      rfl
/-- how it begins -/
theorem Src.begins {X : Cx} {pins : List (Addr × Obj)} {σ : L2.St} {H : Hp} {s : Shared} (I : Inv X pins σ H s) {c : Src} {xs : List V} {u : Value} (h : c.has X.K H xs) (r : RelV c.v u) :
    ∃ (o : Obj) (Hh : Heap → Prop), Begins u o Hh ∧ Hh s.heap ∧ ∀ h' it, h'.get? it = some o → c.at h' it 0 := by
  cases c with
  | L a =>
    obtain ⟨its, rv, p, _⟩ := I.list h
    cases (show u = Value.ref a from r)
    exact ⟨_, _, begins_list a its.toArray, p.isList, fun h' it e => ⟨_, e, rfl, rfl⟩⟩
  | T a =>
    obtain ⟨its, rv, p, _⟩ := I.tuple h
    cases (show u = Value.ref a from r)
    exact ⟨_, _, begins_tuple a its.toArray, p, fun h' it e => ⟨_, e, rfl, rfl⟩⟩
  | S z =>
    obtain ⟨t, rfl⟩ := (show ∃ t, u = Value.str z t from r)
    exact ⟨_, _, begins_text z t, trivial, fun h' it e => ⟨t, _, e, rfl, rfl⟩⟩
theorem apr {n a b : Nat} (h : a ≠ b) : n + a ≠ n + b := fun e => h (Nat.add_left_cancel e)
theorem apz {n a : Nat} (h : 0 < a) : n ≠ n + a := by omega
theorem apy {n a : Nat} (h : 0 < a) : n + a ≠ n := by omega
/-! ### zip -/
def ItzG (K : PySem.W.Frag) (c1 c2 : Src) : It :=
  ⟨fun i H => ∃ (xs ys : List V), c1.has K H xs ∧ c2.has K H ys ∧ i < xs.length ∧ i < ys.length,
    fun i H v H' => ∃ T x y, v = .ref T ∧ H T = none ∧ H' = upd H T (.tup [x, y]) ∧ (∀ xs, c1.has K H xs → xs[i]? = some x) ∧ ∀ ys, c2.has K H ys → ys[i]? = some y,
    fun i H => ∃ xs ys : List V, c1.has K H xs ∧ c2.has K H ys ∧ i ≤ xs.length ∧ i ≤ ys.length ∧ (i = xs.length ∨ i = ys.length)⟩
theorem turn_zipG {P : Program} {w : World} {K : PySem.W.Frag} {elts : List Expr} {kk : Nat} {tpos : Pos} {c1 c2 : Src} {n : Nat} (h1n : ∀ b ∈ c1.fp, b < n) (h2n : ∀ b ∈ c2.fp, b < n) :
    Turn P w K (.Tuple elts kk tpos) (ItzG K c1 c2) [n + 4, n + 2, n + 3, n, n + 1] (n + 4) (fun i h => IsZip h (n + 4) (n + 2) (n + 3) .none ∧ IsTupOf2 h (n + 2) (.ref n) (.ref (n + 1)) ∧ (∃ x y, IsTupOf2 h (n + 3) x y) ∧ c1.at h n i ∧ c2.at h (n + 1) i) where
  mem := by simp
  obj := fun i h st c hc => by
    obtain ⟨hz, hTI, ⟨x, y, hTO⟩, s1, s2⟩ := st
    have e' : c = n + 4 ∨ c = n + 2 ∨ c = n + 3 ∨ c = n ∨ c = n + 1 := by simpa using hc
    rcases e' with q | q | q | q | q
    · rw [q]; exact ⟨_, hz, fun v q => nomatch q⟩
    · rw [q]; exact ⟨_, hTI, fun v q => nomatch q⟩
    · rw [q]; exact ⟨_, hTO, fun v q => nomatch q⟩
    · rw [q]; exact Src.at_obj s1
    · rw [q]; exact Src.at_obj s2
  keep := fun i h h' st k => by
    obtain ⟨hz, hTI, ⟨x, y, hTO⟩, s1, s2⟩ := st
    exact ⟨k (n + 4) (by simp) _ hz, k (n + 2) (by simp) _ hTI, ⟨x, y, k (n + 3) (by simp) _ hTO⟩, Src.at_keep s1 fun o q => k n (by simp) o q, Src.at_keep s2 fun o q => k (n + 1) (by simp) o q⟩
  item := by
    intro X hP hw hK hc i pins s σ H E I hf st hg
    subst hP hw hK
    obtain ⟨hz, hTI, ⟨x0, y0, hTO⟩, s1, s2⟩ := st
    obtain ⟨xs, ys, hqx, hqy, hx, hy⟩ := hg
    obtain ⟨_, P1, St1, D1, p1, a1, b1⟩ := Src.draws (A := X.A.in1) (it := n) I (I.ok.hd hc) hqx (fun m => Nat.lt_irrefl _ (h1n _ m))
    obtain ⟨_, P2, St2, D2, p2, a2, b2⟩ := Src.draws (A := X.A.in1) (it := n + 1) I (I.ok.hd hc) hqy (fun m => Nat.not_lt.mpr (Nat.le_add_right n 1) (h2n _ m))
    have hzl : n + 4 < s.heap.objs.size := Heap.lt_size hz
    refine wpAny_pyNext_zipD2_item (zip_sep2 h1n h2n) D1 D2 hz hTI hTO (a1 i s1) (a2 i s2) hx hy fun u u2 h' tk q1 q2 z' TO' s1' s2' hT hsz hk => ?_
    obtain ⟨x, ex, ru⟩ := p1 i u q1
    obtain ⟨y, ey, ru2⟩ := p2 i u2 q2
    refine ⟨_, rfl, wpAny_letOwnedTupleGo_zip (s := { s with heap := h', toks := tk }) z' fun h'' z'' sb => ?_⟩
    have hT2 : h''.get? s.heap.objs.size = some { cls := .type "tuple", data := .seq #[u, u2] } := (sb.2 _ (Nat.ne_of_gt hzl)).trans hT
    have new : ObjOk X.prog X.w (upd H s.heap.objs.size (.tup [x, y])) h'' s.heap.objs.size (.tup [x, y]) :=
      ⟨by show 2 ≤ sizeLine; decide, [u, u2], .cons ru (.cons ru2 .nil), ⟨_, hT2, rfl, _, rfl⟩⟩
    have I1 : Inv X pins σ (upd H s.heap.objs.size (.tup [x, y])) { s with heap := h'', toks := tk } :=
      I.turnedNew (t' := tk) (ch := [n + 4, n + 2, n + 3, n, n + 1]) (fun c o hb q => (sb.2 c (fun q' => hb (by simp [q']))).trans (hk c o (fun q' => hb (by simp [q'])) (fun q' => hb (by simp [q'])) (fun q' => hb (by simp [q'])) (fun q' => hb (by simp [q'])) q)) hf (Nat.le_refl _) new
    refine ⟨.ref s.heap.objs.size, _, I1, rfl, ⟨_, x, y, rfl, I.hok.fresh (Nat.le_refl _), rfl, fun l hl => by rw [Src.inj I hl hqx]; exact ex, fun l hl => by rw [Src.inj I hl hqy]; exact ey⟩, ⟨z'', ?_, ⟨u, u2, ?_⟩, ?_, ?_⟩, fun c hcm => ?_⟩
    · exact (sb.2 _ (apr (by decide))).trans (hk _ _ (apr (by decide)) (apr (by decide)) (apy (by decide)) (apr (by decide)) hTI)
    · exact (sb.2 _ (apr (by decide))).trans TO'
    · exact Src.at_keep (b1 _ _ s1') fun o q => (sb.2 _ (apz (by decide))).trans q
    · exact Src.at_keep (b2 _ _ s2') fun o q => (sb.2 _ (apr (by decide))).trans q
    · have hlt : c < s.heap.objs.size := by
        have e' : c = n + 4 ∨ c = n + 2 ∨ c = n + 3 ∨ c = n ∨ c = n + 1 := by simpa using hcm
        rcases e' with e | e | e | e | e <;> (rw [e]; first | exact hzl | exact Nat.lt_of_le_of_lt (Nat.add_le_add_left (by decide) n) hzl | exact Nat.lt_of_le_of_lt (Nat.le_add_right n 4) hzl)
      rw [upd_ne (Nat.ne_of_lt hlt)]
      exact (hf c hcm).1
  done := by
    intro X hP hw hK hc i pins s σ H E I hf st hg
    subst hP hw hK
    obtain ⟨hz, hTI, ⟨x0, y0, hTO⟩, s1, s2⟩ := st
    obtain ⟨xs, ys, hqx, hqy, hx, hy, hend⟩ := hg
    obtain ⟨_, P1, St1, D1, p1, a1, b1⟩ := Src.draws (A := X.A.in1) (it := n) I (I.ok.hd hc) hqx (fun m => Nat.lt_irrefl _ (h1n _ m))
    obtain ⟨_, P2, St2, D2, p2, a2, b2⟩ := Src.draws (A := X.A.in1) (it := n + 1) I (I.ok.hd hc) hqy (fun m => Nat.not_lt.mpr (Nat.le_add_right n 1) (h2n _ m))
    exact wpAny_pyNext_zipD2_end (zip_sep2 h1n h2n) D1 D2 hz hTI hTO (a1 i s1) (a2 i s2) hx hy hend fun h' tk hk => ⟨rfl, I.turnedL (t' := tk) (ch := [n + 4, n + 2, n + 3, n, n + 1]) (fun c o hb q =>
      hk c o (fun q' => hb (by simp [q'])) (fun q' => hb (by simp [q'])) (fun q' => hb (by simp [q'])) (fun q' => hb (by simp [q'])) q) hf⟩
  self := fun A i s Q E st h => wpAny_pyIter_zip st.1 h
def iZipG (K : PySem.W.Frag) (ta : TA) : TI := fun σ H R => ta σ H fun vs H1 => ∃ c1 c2 xs ys, vs = [c1.v, c2.v] ∧ c1.has K H1 xs ∧ c2.has K H1 ys ∧ R (ItzG K c1 c2) H1
theorem fresh_fp {X : Cx} {pins : List (Addr × Obj)} {σ : L2.St} {H : Hp} {s : Shared} (I : Inv X pins σ H s) {fs : List Addr} (h : ∀ c ∈ fs, s.heap.objs.size ≤ c) : ∀ c ∈ fs, FpOk X pins H c := fun c hc => I.fpOk (h c hc) (I.hok.fresh (h c hc))
theorem pi_zipG {X : Cx} {e e2 : Expr} {ta : TA} {p pos tpos : Pos} {elts : List Expr} {kk : Nat} (hg : Gl X "zip") (hm : X.mg "zip" = none) (hc : X.calm = true) (ha : PA X [e, e2] ta)
    (hs : starEach [e, e2] X.env = (false, eval e X.env) :: starEach [e2] X.env) (hpl : (backTo pos (starEach [e2] X.env)).any (·.1) = false) :
    PI X (.Tuple elts kk tpos) (.Call (.Name "zip" p) [e, e2] [] pos) (iZipG X.K ta) := by
  refine ⟨fun pins s σ H R I h => ?_⟩
  refine Call_ (ld_blt I hg hm PyProof.Rows.boot_zip (PyProof.Rows.callWith_type1 (thn (ha.run pos pins s σ H _ I h) fun us s1 ⟨vs, H1, I1, r1, q1⟩ => ?_) hs hpl))
  obtain ⟨c1, c2, xs, ys, ex, hqx, hqy, q⟩ := q1
  subst ex
  obtain ⟨u, u2, rfl, r, r'⟩ := vals2 r1
  obtain ⟨o1, Hh1, B1, k1, z1⟩ := Src.begins I1 hqx r
  obtain ⟨o2, Hh2, B2, k2, z2⟩ := Src.begins I1 hqy r'
  have f1 : ∀ b ∈ c1.fp, b < s1.heap.objs.size := by
    cases c1 with
    | L a => intro b hb; cases List.mem_singleton.mp hb; obtain ⟨its, rv, p, _⟩ := I1.list hqx; exact p.lt
    | T a => intro b hb; cases List.mem_singleton.mp hb; obtain ⟨its, rv, p, _⟩ := I1.tuple hqx; obtain ⟨o, ho, _⟩ := id p; exact Heap.lt_size ho
    | S z => intro b hb; cases hb
  have f2 : ∀ b ∈ c2.fp, b < s1.heap.objs.size := by
    cases c2 with
    | L a => intro b hb; cases List.mem_singleton.mp hb; obtain ⟨its, rv, p, _⟩ := I1.list hqy; exact p.lt
    | T a => intro b hb; cases List.mem_singleton.mp hb; obtain ⟨its, rv, p, _⟩ := I1.tuple hqy; obtain ⟨o, ho, _⟩ := id p; exact Heap.lt_size ho
    | S z => intro b hb; cases hb
  refine zip_begins2 B1 B2 k1 k2 fun h' hz hTI hTO g1 g2 hsz hk => wpAny_pyIter_zip hz ?_
  have I2 : Inv X pins σ H1 { s1 with heap := h' } := I1.kept (t' := s1.toks) hk
  refine ⟨s1.heap.objs.size + 4, [s1.heap.objs.size + 4, s1.heap.objs.size + 2, s1.heap.objs.size + 3, s1.heap.objs.size, s1.heap.objs.size + 1], _, _, H1, rfl, I2, turn_zipG f1 f2, ⟨hz, hTI, ⟨_, _, hTO⟩, z1 _ _ g1, z2 _ _ g2⟩, fresh_fp I1 fun c hcm => ?_, q⟩
  have e' : c = s1.heap.objs.size + 4 ∨ c = s1.heap.objs.size + 2 ∨ c = s1.heap.objs.size + 3 ∨ c = s1.heap.objs.size ∨ c = s1.heap.objs.size + 1 := by simpa using hcm
  rcases e' with e | e | e | e | e <;> (rw [e]; first | exact Nat.le_add_right _ _ | exact Nat.le_refl _)
/-! ### enumerate -/
def IteG (K : PySem.W.Frag) (c : Src) : It :=
  ⟨fun i H => ∃ (xs : List V), c.has K H xs ∧ i < xs.length,
    fun i H v H' => ∃ T x, v = .ref T ∧ H T = none ∧ H' = upd H T (.tup [.int (i : Nat), x]) ∧ ∀ xs, c.has K H xs → xs[i]? = some x,
    fun i H => ∃ xs : List V, c.has K H xs ∧ i = xs.length⟩
theorem turn_enumG {P : Program} {w : World} {K : PySem.W.Frag} {elts : List Expr} {kk : Nat} {tpos : Pos} {c : Src} {n : Nat} (hn : ∀ b ∈ c.fp, b < n) :
    Turn P w K (.Tuple elts kk tpos) (IteG K c) [n + 1, n] (n + 1) (fun i h => (∃ old, IsEnum h (n + 1) n ((i : Nat) : Int) old) ∧ c.at h n i) where
  mem := by simp
  obj := fun i h st b hb => by
    obtain ⟨⟨old, he⟩, s1⟩ := st
    have e' : b = n + 1 ∨ b = n := by simpa using hb
    rcases e' with z | z
    · rw [z]; exact ⟨_, he, fun v q => nomatch q⟩
    · rw [z]; exact Src.at_obj s1
  keep := fun i h h' st k => let ⟨⟨old, he⟩, hi⟩ := st; ⟨⟨old, k (n + 1) (by simp) _ he⟩, Src.at_keep hi fun o q => k n (by simp) o q⟩
  item := by
    intro X hP hw hK hc i pins s σ H E I hf st hg
    subst hP hw hK
    obtain ⟨⟨old, he⟩, s1⟩ := st
    obtain ⟨xs, hq, hx⟩ := hg
    obtain ⟨_, P1, St1, D1, p1, a1, b1⟩ := Src.draws (A := X.A.in1) (it := n) I (I.ok.hd hc) hq (fun m => Nat.lt_irrefl _ (hn _ m))
    have hel : n + 1 < s.heap.objs.size := Heap.lt_size he
    refine wpAny_pyNext_enum_itemD D1 he (a1 i s1) hx (apy (by decide)) (fun m => ?_) fun u h' tk q1 ho s1' hT hsz hk => ?_
    · rcases List.mem_cons.mp m with e | m
      · exact apy (by decide) e
      · exact Nat.not_lt.mpr (Nat.le_add_right n 1) (hn _ m)
    obtain ⟨x, ex, ru⟩ := p1 i u q1
    refine ⟨_, rfl, wpAny_letOwnedTupleGo_enum (s := { s with heap := h', toks := tk + 1 }) ho fun h'' he' sb => ?_⟩
    have hT2 : h''.get? s.heap.objs.size = some { cls := .type "tuple", data := .seq #[.int i tk, u] } := (sb.2 _ (Nat.ne_of_gt hel)).trans hT
    have new : ObjOk X.prog X.w (upd H s.heap.objs.size (.tup [.int (i : Nat), x])) h'' s.heap.objs.size (.tup [.int (i : Nat), x]) :=
      ⟨by show 2 ≤ sizeLine; decide, [.int i tk, u], .cons ⟨_, rfl⟩ (.cons ru .nil), ⟨_, hT2, rfl, _, rfl⟩⟩
    have I1 : Inv X pins σ (upd H s.heap.objs.size (.tup [.int (i : Nat), x])) { s with heap := h'', toks := tk + 1 } :=
      I.turnedNew (ch := [n + 1, n]) (fun b ob hb q => (sb.2 b (fun z => hb (by simp [z]))).trans (hk b ob (fun z => hb (by simp [z])) (fun z => hb (by simp [z])) q)) hf (Nat.le_refl _) new
    refine ⟨.ref s.heap.objs.size, _, I1, rfl, ⟨_, x, rfl, I.hok.fresh (Nat.le_refl _), rfl, fun ys hy => by rw [Src.inj I hy hq]; exact ex⟩, ⟨⟨u, ?_⟩, Src.at_keep (b1 _ _ s1') fun o q => (sb.2 n (apz (by decide))).trans q⟩, fun b hb => ?_⟩
    · have e1 : ((i + 1 : Nat) : Int) = (i : Int) + 1 := by omega
      rw [e1]; exact he'
    · have hb' : b < s.heap.objs.size := by
        have e' : b = n + 1 ∨ b = n := by simpa using hb
        rcases e' with e | e <;> (rw [e]; first | exact hel | exact Nat.lt_of_le_of_lt (Nat.le_add_right n 1) hel)
      rw [upd_ne (Nat.ne_of_lt hb')]
      exact (hf b hb).1
  done := by
    intro X hP hw hK hc i pins s σ H E I hf st hg
    subst hP hw hK
    obtain ⟨⟨old, he⟩, s1⟩ := st
    obtain ⟨xs, hq, hx⟩ := hg
    obtain ⟨_, P1, St1, D1, p1, a1, b1⟩ := Src.draws (A := X.A.in1) (it := n) I (I.ok.hd hc) hq (fun m => Nat.lt_irrefl _ (hn _ m))
    subst hx
    obtain ⟨f0, f1, f2, f3, f4, f5⟩ := hf n (by simp)
    exact wpAny_pyNext_enum_endD D1 he (a1 _ s1) fun h' eb => ⟨rfl, I.turned (t' := s.toks) (fun b o hb q => eb b o hb q) f0 f1 f3 f4 f5⟩
  self := fun A i s Q E st h => let ⟨⟨_, he⟩, _⟩ := st; wpAny_pyIter_enum he h
theorem meets_enum_newB1 {v : Value} {o : Obj} {H : Heap → Prop} (B : Begins v o H) :
    Meets (Builtin.«enumerate.__new__» ⟨[.type "enumerate", v], []⟩) (fun _ R s => H s.heap ∧
      R (.ok (.ret (.ref (s.heap.push o).objs.size))) { s with heap := (s.heap.push o).push { cls := .type "enumerate", data := .fields #[.none, .bool false, .ref s.heap.objs.size, rawInt 0, .none, .none] } }) :=
  .of_wp fun prog w A R s h => by
    obtain ⟨hp, g, d, tk, os⟩ := s; obtain ⟨h1, h⟩ := h
    have hsub := sub_enumerate
    have q1 : ∀ {A' : Around} {E : Value → Shared → Prop} {Q : Value → Shared → Prop}, Q (.ref hp.objs.size) ⟨hp.push o, g, d, tk, os⟩ → wpAny (model prog w) A' (pyIter v) Q E ⟨hp, g, d, tk, os⟩ :=
      fun q => B.iter prog w _ _ ⟨hp, g, d, tk, os⟩ _ h1 q
    wp_walk using q1
    refine wpAny_stack_any fun st => wpAny_pure ?_
    split
    · rename_i c _ _ _ _ _
      cases (c == Value.type "enumerate")
      · wp_walk using q1
        exact ⟨_, rfl, h⟩
      · wp_walk using q1
        exact ⟨_, rfl, h⟩
    · wp_walk using q1
      exact ⟨_, rfl, h⟩
theorem enum_begins1 {prog : Program} {w : World} {A : Around} {E : Value → Shared → Prop} {s : Shared} {v : Value} {o : Obj} {H : Heap → Prop} {Q : Value → Shared → Prop} (B : Begins v o H) (h1 : H s.heap)
    (h : ∀ h', IsEnum h' (s.heap.objs.size + 1) s.heap.objs.size 0 .none → h'.get? s.heap.objs.size = some o → h'.objs.size = s.heap.objs.size + 2 →
      (∀ b o, s.heap.get? b = some o → h'.get? b = some o) → Q (.ref (s.heap.objs.size + 1)) { s with heap := h' }) :
    wpAny (model prog w) A (call (.type "enumerate") [v]) Q E s := by
  refine callType_new F.called_enumerate (by decide) (F.typeCall_enumerate_1 _) (F.newCall_enumerate_1 _) (fun obj => F.args_object_init_2 obj _) F.entry_enumerate_new
    (meets_enum_newB1 B) ⟨h1, ?_⟩
  have hz : (s.heap.push o).objs.size = s.heap.objs.size + 1 := Heap.size_push ..
  show _ ∧ _
  rw [hz]
  have he : IsEnum ((s.heap.push o).push { cls := .type "enumerate", data := .fields #[.none, .bool false, .ref s.heap.objs.size, rawInt 0, .none, .none] }) (s.heap.objs.size + 1) s.heap.objs.size 0 .none := by
    have := Heap.get?_push_size (s.heap.push o) (o := { cls := .type "enumerate", data := .fields #[.none, .bool false, .ref s.heap.objs.size, rawInt 0, .none, .none] }) rfl
    rw [hz] at this; exact this
  refine ⟨⟨_, he, rfl⟩, h _ he (Heap.get?_push_of_some _ (Heap.get?_push_size _ B.free)) (by rw [Heap.size_push, hz]) fun b o x => Heap.get?_push_of_some _ (Heap.get?_push_of_some _ x)⟩
def iEnumG (K : PySem.W.Frag) (te : TE) : TI := fun σ H R => te σ H fun v H1 => ∃ (c : Src) (xs : List V), [v] = [c.v] ∧ c.has K H1 xs ∧ R (IteG K c) H1
theorem pi_enumG {X : Cx} {e : Expr} {te : TE} {p pos tpos : Pos} {elts : List Expr} {kk : Nat} (hg : Gl X "enumerate") (hm : X.mg "enumerate" = none) (hc : X.calm = true) (he : PE X e te) (hs : starEach [e] X.env = (false, eval e X.env) :: starEach [] X.env) :
    PI X (.Tuple elts kk tpos) (.Call (.Name "enumerate" p) [e] [] pos) (iEnumG X.K te) := by
  refine ⟨fun pins s σ H R I h => ?_⟩
  have ha := pa_cons he pa_nil hs
  refine Call_ (ld_blt I hg hm boot_enumerate (PyProof.Rows.callWith_type1 (thn (ha.run pos pins s σ H (fun vs H1 => ∃ (c : Src) (xs : List V), vs = [c.v] ∧ c.has X.K H1 xs ∧ R (IteG X.K c) H1) I h) fun us s1 ⟨vs, H1, I1, r1, q1⟩ => ?_) hs rfl))
  · obtain ⟨c, xs, ex, hq, q⟩ := q1
    subst ex
    obtain ⟨u, rfl, r⟩ := vals1 r1
    obtain ⟨o1, Hh1, B1, k1, z1⟩ := Src.begins I1 hq r
    have f1 : ∀ b ∈ c.fp, b < s1.heap.objs.size := by
      cases c with
      | L a => intro b hb; cases List.mem_singleton.mp hb; obtain ⟨its, rv, p, _⟩ := I1.list hq; exact p.lt
      | T a => intro b hb; cases List.mem_singleton.mp hb; obtain ⟨its, rv, p, _⟩ := I1.tuple hq; obtain ⟨o, ho, _⟩ := id p; exact Heap.lt_size ho
      | S z => intro b hb; cases hb
    refine enum_begins1 B1 k1 fun h' he' g1 hsz hk => wpAny_pyIter_enum he' ?_
    have I2 : Inv X pins σ H1 { s1 with heap := h' } := I1.kept (t' := s1.toks) hk
    refine ⟨s1.heap.objs.size + 1, [s1.heap.objs.size + 1, s1.heap.objs.size], _, _, H1, rfl, I2, turn_enumG f1, ⟨⟨.none, he'⟩, z1 _ _ g1⟩, fresh_fp I1 fun c hcm => ?_, q⟩
    have e' : c = s1.heap.objs.size + 1 ∨ c = s1.heap.objs.size := by simpa using hcm
    rcases e' with e | e <;> (rw [e]; first | exact Nat.le_add_right _ _ | exact Nat.le_refl _)
end Cr
/-! Built-ins and methods upon trees. -/
namespace Cr
open PySem PySem.Spec PyProof.Rows L2

def RepsQ (g : Gd) (F H : Hp) : List D → List V → Prop
  | [], vs => vs = []
  | d :: ds, vs => ∃ w ws, vs = w :: ws ∧ RepQ g true F H d w ∧ RepsQ g F H ds ws
def biNm : BI → Str
  | .len => "len" | .abs => "abs" | .max => "max" | .min => "min" | .sum => "sum" | .all => "all" | .any => "any" | .int => "int" | .list => "list" | .tuple => "tuple"
  | .sorted => "sorted" | .str => "str" | .reversed => "reversed" | .set => "set" | .dict => "dict" | .bool => "bool"
def biV : BI → Value
  | .len => .builtin "len" | .abs => .builtin "abs" | .max => .builtin "max" | .min => .builtin "min" | .sum => .builtin "sum" | .all => .builtin "all" | .any => .builtin "any"
  | .int => .type "int" | .list => .type "list" | .tuple => .type "tuple" | .sorted => .builtin "sorted" | .str => .type "str" | .reversed => .type "reversed" | .set => .type "set" | .dict => .type "dict" | .bool => .type "bool"
theorem biV_ok : ∀ b : BI, bootBuiltins (biNm b) = some (biV b) := by
  intro b
  cases b <;> decide +kernel

/-! ### sorting -/
theorem foldl_max : ∀ (l : List Int) (a : Int), (l.foldl max a = a ∨ l.foldl max a ∈ l) ∧ a ≤ l.foldl max a ∧ ∀ y ∈ l, y ≤ l.foldl max a
  | [], a => ⟨.inl rfl, Int.le_refl _, fun _ h => by cases h⟩
  | x :: l, a => by
    obtain ⟨h1, h2, h3⟩ := foldl_max l (max a x)
    rw [List.foldl_cons]
    refine ⟨?_, by omega, fun y hy => ?_⟩
    · rcases h1 with h1 | h1
      · rw [h1]
        by_cases h : a ≤ x
        · right
          rw [show max a x = x by omega]
          exact List.mem_cons_self
        · left
          omega
      · exact .inr (List.mem_cons_of_mem _ h1)
    · rcases List.mem_cons.mp hy with rfl | hy
      · omega
      · exact h3 y hy
theorem foldl_min : ∀ (l : List Int) (a : Int), (l.foldl min a = a ∨ l.foldl min a ∈ l) ∧ l.foldl min a ≤ a ∧ ∀ y ∈ l, l.foldl min a ≤ y
  | [], a => ⟨.inl rfl, Int.le_refl _, fun _ h => by cases h⟩
  | x :: l, a => by
    obtain ⟨h1, h2, h3⟩ := foldl_min l (min a x)
    rw [List.foldl_cons]
    refine ⟨?_, by omega, fun y hy => ?_⟩
    · rcases h1 with h1 | h1
      · rw [h1]
        by_cases h : x ≤ a
        · right
          rw [show min a x = x by omega]
          exact List.mem_cons_self
        · left
          omega
      · exact .inr (List.mem_cons_of_mem _ h1)
    · rcases List.mem_cons.mp hy with rfl | hy
      · omega
      · exact h3 y hy
section
variable {X : Cx} {ad : Option Addr}
theorem one_of {g : Gd} {F H : Hp} {d : D} {xs : List V} (h : RepsQ g F H [d] xs) : ∃ v, xs = [v] ∧ RepQ g true F H d v := by
  obtain ⟨w, ws, rfl, r, t⟩ := h
  cases (show ws = [] from t)
  exact ⟨w, rfl, r⟩
theorem two_of {g : Gd} {F H : Hp} {d e : D} {xs : List V} (h : RepsQ g F H [d, e] xs) : ∃ v w, xs = [v, w] ∧ RepQ g true F H d v ∧ RepQ g true F H e w := by
  obtain ⟨v, vs, rfl, r, t⟩ := h
  obtain ⟨w, rfl, r2⟩ := one_of t
  exact ⟨v, w, rfl, r, r2⟩
theorem repsQ_of {g : Gd} {F H : Hp} : ∀ {ds : List D} {xs : List V}, Reps g F ds xs → RepsQ g F H ds xs
  | [], _, h => h
  | d :: ds, _, h => by
    obtain ⟨w, ws, e, r, t⟩ := h
    exact ⟨w, ws, e, .inl r, repsQ_of t⟩
theorem twoS {g : Gd} {F H : Hp} {d e : D} {xs : List V} (h : Reps g F [d, e] xs) : ∃ v w, xs = [v, w] ∧ RepQ g true F H d v ∧ RepQ g false F H e w := by
  obtain ⟨v, vs, rfl, r, w, ws, rfl, r2, t⟩ := h
  cases (show ws = [] from t)
  exact ⟨v, w, rfl, .inl r, .inl r2⟩
def rBlt (g : Gd) (f : BI) : List V → Hp → VK → Prop := fun xs H Q => ∃ F ds d, Sub F H ∧ RepsQ g F H ds xs ∧ bltD f ds = some d ∧ KontX g F H d Q
theorem lst_ints {g : Gd} {F H : Hp} {ds : List D} {v : V} {is : List Int} (h : RepQ g true F H (.lst ds) v) (s : Sub F H) (e : intsOf ds = some is) : ∃ p, v = .ref p ∧ H p = some (.lst (is.map V.int)) := by
  obtain ⟨p, vs, rfl, q, t, l⟩ := rq_lst h s
  rw [t.ints e] at q
  exact ⟨p, rfl, q⟩
theorem lst_bls {g : Gd} {F H : Hp} {ds : List D} {v : V} {is : List Bool} (h : RepQ g true F H (.lst ds) v) (s : Sub F H) (e : blsOf ds = some is) : ∃ p, v = .ref p ∧ H p = some (.lst (is.map V.bl)) := by
  obtain ⟨p, vs, rfl, q, t, l⟩ := rq_lst h s
  rw [t.bls e] at q
  exact ⟨p, rfl, q⟩
theorem lst_strs {g : Gd} {F H : Hp} {ds : List D} {v : V} {is : List Str} (h : RepQ g true F H (.lst ds) v) (s : Sub F H) (e : strsOf ds = some is) : ∃ p, v = .ref p ∧ H p = some (.lst (is.map V.str)) := by
  obtain ⟨p, vs, rfl, q, t, l⟩ := rq_lst h s
  rw [t.strs e] at q
  exact ⟨p, rfl, q⟩
theorem zip_len {κ : Type} {ks : List κ} {vs : List V} (h : ks.length = vs.length) : (ks.zip vs).length = ks.length := by
  rw [List.length_zip]
  omega
theorem call_lenK : CallR X (.builtin "len") (fun xs H Q => ∃ a kvs, xs = [V.ref a] ∧ Rd H a (.dK kvs) ∧ Q (.int kvs.length) H) := by
  intro pins s σ H xs us Q I r h
  obtain ⟨a, kvs, rfl, ha, q⟩ := h
  obtain ⟨u, rfl, ru⟩ := vals1 r
  cases ru
  exact d_len I ha fun t s' I' => ⟨.int kvs.length, H, I', ⟨t, rfl⟩, q⟩
theorem call_lenT : CallR X (.builtin "len") (fun xs H Q => ∃ (p : Addr) (kvs : List (List L2.Key × V)), xs = [.ref p] ∧ Rd H p (.dT kvs) ∧ Q (.int ((kvs.length : Nat) : Int)) H) := by
  intro pins s σ H xs us Q I r h
  obtain ⟨p, kvs, rfl, hp, q⟩ := h
  obtain ⟨u, rfl, rx⟩ := vals1 r
  obtain rfl : u = .ref p := rx
  obtain ⟨z, hd, ys, rel, dd⟩ := dt_rd I.hok hp
  have hl : kvs.length = ys.length := Paired.length rel
  refine call_len_dictH hd dd (by rw [← hl]; rw [sizeLine_eq] at z; omega) ?_
  rw [← hl]
  exact ⟨.int ((kvs.length : Nat) : Int), H, I.tok _, ⟨_, rfl⟩, q⟩
theorem kontX_known {g : Gd} {F H : Hp} {d : D} {Q : VK} (k : KontX g F H d Q) (n : ∀ ds, d ≠ .lst ds) (n1 : ∀ a b, d ≠ .dicK a b) (n2 : ∀ a b, d ≠ .dicT a b) : ∀ v, Rep g F d v → Q v H := by
  cases d with
  | lst ds => exact absurd rfl (n ds)
  | dicK a b => exact absurd rfl (n1 a b)
  | dicT a b => exact absurd rfl (n2 a b)
  | _ => exact k.1
/-- which calls: a name, a row of arguments -/
theorem call_blt (hc : X.calm = true) (hu : X.A.units + 66 < cLine) (f : BI) : CallR X (biV f) (rBlt (gd X ad) f) := by
  intro pins s σ H xs us Q I r h
  obtain ⟨F, ds, d, sb, rs, e, k⟩ := h
  cases f with
  | len =>
    cases ds with
    | nil => cases e
    | cons d1 t =>
      cases t with
      | cons _ _ => cases d1 <;> cases e
      | nil =>
        obtain ⟨v, rfl, r1⟩ := one_of rs
        cases d1 with
        | str z =>
          obtain ⟨h1, rfl⟩ := grd_some (show grd (szOk z.length) (D.int z.length) = some d from e)
          cases rq_str r1
          exact call_len_str pins s σ H _ us Q I r ⟨z, rfl, szOk_le h1, k.1 _ rfl⟩
        | tup es =>
          cases (show some (D.int es.length) = some d from e)
          obtain ⟨p, vs, rfl, h1, t, l⟩ := rq_tup r1 sb
          refine call_len_seq pins s σ H _ us Q I r ⟨p, vs, rfl, .inr (.of h1), ?_⟩
          rw [t.len]
          exact k.1 _ rfl
        | lst es =>
          cases (show some (D.int es.length) = some d from e)
          obtain ⟨p, vs, rfl, h1, t, l⟩ := rq_lst r1 sb
          refine call_len_seq pins s σ H _ us Q I r ⟨p, vs, rfl, .inl (.of h1), ?_⟩
          rw [t.len]
          exact k.1 _ rfl
        | dicK ks es =>
          cases (show some (D.int ks.length) = some d from e)
          obtain ⟨p, vs, rfl, h1, t, n, l, l2⟩ := rq_dicK r1 sb
          refine call_lenK pins s σ H _ us Q I r ⟨p, _, rfl, h1, ?_⟩
          rw [zip_len (by rw [t.len]; exact l2)]
          exact k.1 _ rfl
        | dicT ks es =>
          cases (show some (D.int ks.length) = some d from e)
          obtain ⟨p, vs, rfl, h1, t, n, l, l2⟩ := rq_dicT r1 sb
          refine call_lenT pins s σ H _ us Q I r ⟨p, _, rfl, h1, ?_⟩
          rw [zip_len (by rw [t.len]; exact l2)]
          exact k.1 _ rfl
        | ilst is =>
          cases (show some (D.int is.length) = some d from e)
          obtain ⟨p, rfl, h1, l⟩ := rq_ilst r1 sb
          refine call_len_seq pins s σ H _ us Q I r ⟨p, _, rfl, .inl h1, ?_⟩
          rw [List.length_map]
          exact k.1 _ rfl
        | _ => cases e
  | abs =>
    cases ds with
    | nil => cases e
    | cons d1 t =>
      cases t with
      | cons _ _ => cases d1 <;> cases e
      | nil =>
        obtain ⟨v, rfl, r1⟩ := one_of rs
        cases d1 <;> try (cases e; done)
        cases rq_int r1; cases e
        exact call_abs pins s σ H _ us Q I r ⟨_, rfl, k.1 _ rfl⟩
  | max =>
    cases ds with
    | nil => cases e
    | cons d1 t =>
      cases t with
      | nil =>
        obtain ⟨v, rfl, r1⟩ := one_of rs
        cases d1 <;> try (cases e; done)
        rename_i es
        have e' : (match intsOf es with | some is => (maxI is).map D.int | none => maxG es) = some d := e
        cases q : intsOf es with
        | none =>
          rw [q] at e'
          obtain ⟨p, vs, rfl, h1, t, l⟩ := rq_lst r1 sb
          have hus : us = [.ref p] := Vals.ref1 r
          subst hus
          exact call_maxG hc hu I sb h1 t e' (kontX_known k)
        | some is =>
          rw [q] at e'
          obtain ⟨p, rfl, h1⟩ := lst_ints r1 sb q
          cases is with
          | nil => cases e'
          | cons i is =>
            cases (show some (D.int (is.foldl max i)) = some d from e')
            obtain ⟨m1, m2, m3⟩ := foldl_max is i
            refine cr_max hc pins s σ H _ us Q I r ⟨p, i :: is, rfl, .of h1, by simp, fun m hm hy => ?_⟩
            have h2 : is.foldl max i ∈ i :: is := by
              rcases m1 with m1 | m1
              · rw [m1]; exact List.mem_cons_self
              · exact List.mem_cons_of_mem _ m1
            have h3 := hy _ h2
            have h4 : m ≤ is.foldl max i := by
              rcases List.mem_cons.mp hm with rfl | hm
              · exact m2
              · exact m3 _ hm
            rw [show m = is.foldl max i by omega]
            exact k.1 _ rfl
      | cons d2 t =>
        cases t with
        | cons _ _ => cases d1 <;> cases d2 <;> cases e
        | nil =>
          obtain ⟨v, w, rfl, r1, r2⟩ := two_of rs
          cases d1 <;> cases d2 <;> try (cases e; done)
          cases rq_int r1; cases rq_int r2; cases e
          exact call_max2 hc pins s σ H _ us Q I r ⟨_, _, rfl, k.1 _ rfl⟩
  | min =>
    cases ds with
    | nil => cases e
    | cons d1 t =>
      cases t with
      | nil =>
        obtain ⟨v, rfl, r1⟩ := one_of rs
        cases d1 <;> try (cases e; done)
        rename_i es
        have e' : (match intsOf es with | some is => (minI is).map D.int | none => minG es) = some d := e
        cases q : intsOf es with
        | none =>
          rw [q] at e'
          obtain ⟨p, vs, rfl, h1, t, l⟩ := rq_lst r1 sb
          have hus : us = [.ref p] := Vals.ref1 r
          subst hus
          exact call_minG hc hu I sb h1 t e' (kontX_known k)
        | some is =>
          rw [q] at e'
          obtain ⟨p, rfl, h1⟩ := lst_ints r1 sb q
          cases is with
          | nil => cases e'
          | cons i is =>
            cases (show some (D.int (is.foldl min i)) = some d from e')
            obtain ⟨m1, m2, m3⟩ := foldl_min is i
            refine cr_min hc pins s σ H _ us Q I r ⟨p, i :: is, rfl, .of h1, by simp, fun m hm hy => ?_⟩
            have h2 : is.foldl min i ∈ i :: is := by
              rcases m1 with m1 | m1
              · rw [m1]; exact List.mem_cons_self
              · exact List.mem_cons_of_mem _ m1
            have h3 := hy _ h2
            have h4 : is.foldl min i ≤ m := by
              rcases List.mem_cons.mp hm with rfl | hm
              · exact m2
              · exact m3 _ hm
            rw [show m = is.foldl min i by omega]
            exact k.1 _ rfl
      | cons d2 t =>
        cases t with
        | cons _ _ => cases d1 <;> cases d2 <;> cases e
        | nil =>
          obtain ⟨v, w, rfl, r1, r2⟩ := two_of rs
          cases d1 <;> cases d2 <;> try (cases e; done)
          cases rq_int r1; cases rq_int r2; cases e
          exact call_min2 hc pins s σ H _ us Q I r ⟨_, _, rfl, k.1 _ rfl⟩
  | sum =>
    cases ds with
    | nil => cases e
    | cons d1 t =>
      cases t with
      | cons _ _ => cases d1 <;> cases e
      | nil =>
        obtain ⟨v, rfl, r1⟩ := one_of rs
        cases d1 <;> try (cases e; done)
        rename_i es
        have e' : ((intsOf es).map fun is => D.int is.sum) = some d := e
        cases q : intsOf es with
        | none => rw [q] at e'; cases e'
        | some is =>
          rw [q] at e'
          cases e'
          obtain ⟨p, rfl, h1⟩ := lst_ints r1 sb q
          exact cr_sum hc pins s σ H _ us Q I r ⟨p, is, rfl, .of h1, k.1 _ rfl⟩
  | all =>
    cases ds with
    | nil => cases e
    | cons d1 t =>
      cases t with
      | cons _ _ => cases d1 <;> cases e
      | nil =>
        obtain ⟨v, rfl, r1⟩ := one_of rs
        cases d1 <;> try (cases e; done)
        rename_i es
        have e' : ((blsOf es).map fun is => D.bl (is.all id)) = some d := e
        cases q : blsOf es with
        | none => rw [q] at e'; cases e'
        | some is =>
          rw [q] at e'
          cases e'
          obtain ⟨p, rfl, h1⟩ := lst_bls r1 sb q
          exact cr_all hc pins s σ H _ us Q I r ⟨p, is, rfl, .of h1, k.1 _ rfl⟩
  | any =>
    cases ds with
    | nil => cases e
    | cons d1 t =>
      cases t with
      | cons _ _ => cases d1 <;> cases e
      | nil =>
        obtain ⟨v, rfl, r1⟩ := one_of rs
        cases d1 <;> try (cases e; done)
        rename_i es
        have e' : ((blsOf es).map fun is => D.bl (is.any id)) = some d := e
        cases q : blsOf es with
        | none => rw [q] at e'; cases e'
        | some is =>
          rw [q] at e'
          cases e'
          obtain ⟨p, rfl, h1⟩ := lst_bls r1 sb q
          exact cr_any hc pins s σ H _ us Q I r ⟨p, is, rfl, .of h1, k.1 _ rfl⟩
  | int =>
    cases ds with
    | nil => cases e
    | cons d1 t =>
      cases t with
      | cons _ _ => cases d1 <;> cases e
      | nil =>
        obtain ⟨v, rfl, r1⟩ := one_of rs
        cases d1 <;> try (cases e; done)
        · cases rq_bl r1; cases e
          exact call_int1 pins s σ H _ us Q I r (.inr ⟨_, rfl, k.1 _ rfl⟩)
        · cases rq_int r1; cases e
          exact call_int1 pins s σ H _ us Q I r (.inl ⟨_, rfl, k.1 _ rfl⟩)
  | bool =>
    cases ds with
    | nil => cases e
    | cons d1 t =>
      cases t with
      | cons _ _ => cases d1 <;> cases e
      | nil =>
        obtain ⟨v, rfl, r1⟩ := one_of rs
        cases d1 <;> try (cases e; done)
        cases rq_bl r1; cases e
        exact call_bool1 pins s σ H _ us Q I r (.inr ⟨_, rfl, k.1 _ rfl⟩)
  | list =>
    cases ds with
    | nil => cases e
    | cons d1 t =>
      cases t with
      | cons _ _ => cases d1 <;> cases e
      | nil =>
        obtain ⟨v, rfl, r1⟩ := one_of rs
        cases d1 <;> try (cases e; done)
        · cases e
          obtain ⟨p, vs, rfl, h1, t, l⟩ := rq_tup r1 sb
          exact call_list_of pins s σ H _ us Q I r ⟨p, vs, rfl, .inr (.of h1), fun q hq => k _ _ hq (own_lst t l)⟩
        · cases e
          obtain ⟨p, vs, rfl, h1, t, l⟩ := rq_lst r1 sb
          exact call_list_of pins s σ H _ us Q I r ⟨p, vs, rfl, .inl (.of h1), fun q hq => k _ _ hq (own_lst t l)⟩
  | tuple =>
    cases ds with
    | nil => cases e
    | cons d1 t =>
      cases t with
      | cons _ _ => cases d1 <;> cases e
      | nil =>
        obtain ⟨v, rfl, r1⟩ := one_of rs
        cases d1 <;> try (cases e; done)
        · cases e
          obtain ⟨p, vs, rfl, h1, t, l⟩ := rq_tup r1 sb
          refine call_tuple_of pins s σ H _ us Q I r ⟨p, vs, rfl, .inr ⟨.of h1, k.1 _ ?_⟩⟩
          rcases r1 with r1 | ⟨_, _, _, _, z⟩
          · exact r1
          · exact z.elim
        · cases e
          obtain ⟨p, vs, rfl, h1, t, l⟩ := rq_lst r1 sb
          exact call_tuple_of pins s σ H _ us Q I r ⟨p, vs, rfl, .inl ⟨.of h1, fun q hq => k.2 _ _ hq (rep_tup (sb.free hq) t l)⟩⟩
  | sorted =>
    cases ds with
    | nil => cases e
    | cons d1 t =>
      cases t with
      | cons _ _ => cases d1 <;> cases e
      | nil =>
        obtain ⟨v, rfl, r1⟩ := one_of rs
        cases d1 <;> try (cases e; done)
        rename_i es
        have e' : (sortD es).map D.lst = some d := e
        cases q : sortD es with
        | none => rw [q] at e'; cases e'
        | some zs =>
          rw [q] at e'
          cases e'
          exact call_sorted' hu pins s σ H _ us Q I r ⟨F, es, zs, v, sb, rfl, r1, q, k⟩
  | str =>
    cases ds with
    | nil => cases e
    | cons d1 t =>
      cases t with
      | cons _ _ => cases d1 <;> cases e
      | nil =>
        obtain ⟨v, rfl, r1⟩ := one_of rs
        cases d1 <;> try (cases e; done)
        cases rq_int r1
        obtain ⟨h1, rfl⟩ := grd_some e
        exact call_str_int pins s σ H _ us Q I r ⟨_, rfl, of_decide_eq_true h1, k.1 _ rfl⟩
  | reversed => cases ds <;> cases e
  | set => cases ds <;> cases e
  | dict => cases ds <;> cases e

/-! ### isinstance -/
def tyNm : Ty → String
  | .int => "int" | .bool => "bool" | .str => "str" | .tuple => "tuple" | .list => "list" | .dict => "dict"
def rIsi' (g : Gd) (t : Ty) : List V → Hp → VK → Prop := fun xs H Q => ∃ F d x b, Sub F H ∧ xs = [x, .ty (tyNm t)] ∧ RepQ g true F H d x ∧ isiD t d = some b ∧ Q (.bl b) H
theorem call_isi' (t : Ty) : CallR X (.builtin "isinstance") (rIsi' (gd X ad) t) := by
  intro pins s σ H xs us Q I r h
  obtain ⟨F, d, x, b, sb, rfl, r1, e, k⟩ := h
  have fin : ∀ ty : String, TyX X.K H x (.type ty) → kitB ty (tyNm t) = some b → wpAny (model X.prog X.w) X.A (call (.builtin "isinstance") us) (EP X pins σ Q) X.xe s := fun ty hx hk =>
    call_isi pins s σ H _ us Q I r ⟨x, .ty (tyNm t), .type ty, .type (tyNm t), b, rfl, .ty _, hx, kit_ty hk, k⟩
  cases d with
  | non =>
    cases rq_non r1
    exact fin "NoneType" (.base .non) (by cases t <;> cases e <;> decide +kernel)
  | bl c =>
    cases rq_bl r1
    exact fin "bool" (.base (.bl c)) (by cases t <;> cases e <;> decide +kernel)
  | int c =>
    cases rq_int r1
    exact fin "int" (.base (.int c)) (by cases t <;> cases e <;> decide +kernel)
  | str c =>
    cases rq_str r1
    exact fin "str" (.base (.str c)) (by cases t <;> cases e <;> decide +kernel)
  | tup ds =>
    obtain ⟨p, vs, rfl, h1, _⟩ := rq_tup r1 sb
    exact fin "tuple" (.base (.tup h1)) (by cases t <;> cases e <;> decide +kernel)
  | lst ds =>
    obtain ⟨p, vs, rfl, h1, _⟩ := rq_lst r1 sb
    exact fin "list" (.base (.lst h1)) (by cases t <;> cases e <;> decide +kernel)
  | dicK ks ds =>
    obtain ⟨p, vs, rfl, h1, _⟩ := rq_dicK r1 sb
    rcases h1 with h1 | ⟨o, h1⟩
    · exact fin "dict" (.base (.dK h1)) (by cases t <;> cases e <;> decide +kernel)
    · exact fin "dict" (.fDict h1) (by cases t <;> cases e <;> decide +kernel)
  | dicT ks ds =>
    obtain ⟨p, vs, rfl, h1, _⟩ := rq_dicT r1 sb
    have hk : kitB "dict" (tyNm t) = some b := by cases t <;> cases e <;> decide +kernel
    obtain ⟨u, w, rfl, ru, rw'⟩ := vals2 r
    cases (show u = Value.ref p from ru)
    cases (show w = Value.type (tyNm t) from rw')
    obtain ⟨_, _, xs, _, o, es, ep, g1, g2, _⟩ := h1.ok I.hok
    exact PySem.W.kia_one PySem.W.kitx_dict I.kIn ⟨o, g1, g2.1⟩ (kit_ty hk) (fun z => nomatch z) fun tk => ⟨.bl b, H, I.tok _, rfl, k⟩
  | fn _ => cases t <;> cases e
  | drw => cases t <;> cases e
  | ilst _ => cases t <;> cases e

/-! ### methods -/
def miNm : MI → Str
  | .join => "join" | .get => "get" | .index => "index" | .count => "count" | .startswith => "startswith" | .endswith => "endswith" | .split => "split"
def rMeth (g : Gd) (m : MI) : V → List V → Hp → VK → Prop := fun x xs H Q => ∃ F d0 ds d, Sub F H ∧ RepQ g true F H d0 x ∧ Reps g F ds xs ∧ methD m d0 ds = some d ∧ Kont g F H d Q
theorem mt_join' : MtR X "str.join" (rMeth (gd X ad) .join) := by
  intro pins s σ H x xs v us Q I rx rxs h
  obtain ⟨F, d0, ds, d, sb, r0, rs, e, k⟩ := h
  cases d0 <;> try (cases e; done)
  cases ds with
  | nil => cases e
  | cons d1 t =>
    cases t with
    | cons _ _ => cases d1 <;> cases e
    | nil =>
      obtain ⟨w, rfl, r1⟩ := one_of (H := H) (repsQ_of rs)
      cases d1 <;> try (cases e; done)
      rename_i sep es
      have e' : (match strsOf es with | some ss => grd (decide ((ss.map (·.length)).sum + ss.length * sep.length ≤ 16777216)) (D.str (Str.join sep ss)) | none => none) = some d := e
      cases q : strsOf es with
      | none => rw [q] at e'; cases e'
      | some ss =>
        rw [q] at e'
        obtain ⟨h1, rfl⟩ := grd_some e'
        cases rq_str r0
        obtain ⟨p, rfl, h2⟩ := lst_strs r1 sb q
        refine mt_join pins s σ H _ _ v us Q I rx rxs ⟨sep, p, ss, rfl, rfl, .inl (.of h2), of_decide_eq_true h1, ?_⟩
        rw [TL.join_eq]
        exact k.1 _ rfl
/-- the value there, or the other one; the other one is known to all -/
theorem lastQ {g : Gd} {F H : Hp} {o : Option V} {dd d : D} {w : V} {q : Option D} {Q : VK} (h1 : q = none → o = none) (h2 : ∀ d', q = some d' → ∃ w', o = some w' ∧ Rep g F d' w') (h3 : RepQ g false F H dd w) (h4 : q.getD dd = d) (k : Kont g F H d Q) : Q (o.getD w) H := by
  cases q with
  | none => rw [h1 rfl]; exact k.1 _ (by rw [← h4]; exact h3.rep)
  | some d' =>
    obtain ⟨w', e1, r'⟩ := h2 d' rfl
    rw [e1]
    exact k.1 _ (by rw [← h4]; exact r')
theorem mt_get' (hu : X.A.units + 1 < cLine) : MtR X "dict.get" (rMeth (gd X ad) .get) := by
  intro pins s σ H x xs v us Q I rx rxs h
  obtain ⟨F, d0, ds, d, sb, r0, rs, e, k⟩ := h
  cases d0 with
  | dicK ks ds0 =>
    cases ds with
    | nil => cases e
    | cons d1 t =>
      cases t with
      | nil => cases d1 <;> cases e
      | cons d2 t =>
        cases t with
        | cons _ _ => cases d1 <;> cases e
        | nil =>
          obtain ⟨w1, w2, rfl, r1, r2⟩ := twoS (H := H) rs
          have e' : (match d1.key with | some k => some ((lookK ks ds0 k).getD d2) | none => none) = some d := by cases d1 <;> exact e
          cases h1 : d1.key with
          | none => rw [h1] at e'; cases e'
          | some kk =>
            rw [h1] at e'
            obtain ⟨p, o, rfl, g, z, f⟩ := dget_K sb r0 r1 h1
            cases (show v = Value.ref p from rx)
            cases rxs with
            | cons ry rxs =>
              cases rxs with
              | cons rz rxs =>
                cases rxs
                refine d_get2 hu I g ry rz fun w' s' I' r' => ⟨_, H, I', r', ?_⟩
                refine lastQ (fun h => ?_) f r2 (Option.some.inj e') k
                rw [h] at z
                cases o with
                | none => rfl
                | some _ => cases z
  | dicT ks ds0 =>
    cases ds with
    | nil => cases e
    | cons d1 t =>
      cases t with
      | nil => cases d1 <;> cases e
      | cons d2 t =>
        cases t with
        | cons _ _ => cases d1 <;> cases e
        | nil =>
          obtain ⟨w1, w2, rfl, r1, r2⟩ := twoS (H := H) rs
          cases d1 <;> try (cases e; done)
          rename_i es
          have e' : (match keysOf es with | some k => some ((lookK ks ds0 k).getD d2) | none => none) = some d := e
          cases h1 : keysOf es with
          | none => rw [h1] at e'; cases e'
          | some kk =>
            rw [h1] at e'
            obtain ⟨q, vs, rfl, hq, t, _⟩ := rq_tup r1 sb
            rw [keysOf_V t h1] at hq
            obtain ⟨p, o, rfl, g, z, f⟩ := dget_T sb r0 ⟨q, rfl, hq⟩
            cases (show v = Value.ref p from rx)
            cases rxs with
            | cons ry rxs =>
              cases rxs with
              | cons rz rxs =>
                cases rxs
                refine d_get2 hu I g ry rz fun w' s' I' r' => ⟨_, H, I', r', ?_⟩
                refine lastQ (fun h => ?_) f r2 (Option.some.inj e') k
                rw [h] at z
                cases o with
                | none => rfl
                | some _ => cases z
  | _ => cases e
end
end Cr
/-! What an expression's text comes to, construct by construct. -/
namespace Cr
open PySem PySem.Spec PyProof.Rows L2

def Res.post {α : Type} (r : Res α) (P : α → List Int → Prop) (E : Ex → List Int → Prop) : Prop := match r with
  | .ok a dr => P a dr
  | .exc e dr => E e dr
  | .bad => False
theorem post_bind {α β : Type} {r : Res α} {f : α → List Int → Res β} {P : β → List Int → Prop} {E : Ex → List Int → Prop} (h : (r.bind f).post P E) : r.post (fun a dr => (f a dr).post P E) E := by
  cases r <;> exact h
theorem Res.post.imp {α : Type} {r : Res α} {P P' : α → List Int → Prop} {E E' : Ex → List Int → Prop} (h : r.post P E) (i : ∀ a dr, P a dr → P' a dr) (j : ∀ e dr, E e dr → E' e dr) : r.post P' E' := by
  cases r with
  | ok a dr => exact i _ _ h
  | exc e dr => exact j _ _ h
  | bad => exact h
theorem post_ofO {α : Type} {o : Option α} {dr : List Int} {P : α → List Int → Prop} {E : Ex → List Int → Prop} (h : (ofO o dr).post P E) : ∃ a, o = some a ∧ P a dr := by
  cases o with
  | none => exact False.elim h
  | some a => exact ⟨a, rfl, h⟩

/-- how an error of the trees stands -/
def ExR (g : Gd) (F H : Hp) (e : Ex) (cls : Value) (dd : Option Addr) : Prop := g.mg e.cls = some cls ∧ match e.at_ with
  | none => dd = none
  | some d => ∃ a v, dd = some a ∧ H a = some (.xd [(("at" : Str), v)]) ∧ Rep g F d v

/-- the frame's entry: the known, the heap; what is wished of errors -/
structure En where
  F0 : Hp
  H0 : Hp
  W : WX
abbrev EX (g : Gd) (W : WX) (F H : Hp) (σ : L2.St) : Ex → List Int → Prop := fun e dr' => ∀ cls dd H' F', Post g F H F' H' dr' → ExR g F' H' e cls dd → W cls dd σ H'
theorem EX.step {g : Gd} {W : WX} {F H F1 H1 : Hp} {σ : L2.St} {dr1 : List Int} (a : Post g F H F1 H1 dr1) (e : Ex) (dr : List Int) (h : EX g W F H σ e dr) : EX g W F1 H1 σ e dr := fun cls dd H' F' b x => h cls dd H' F' (a.trans b) x

def tM (g : Gd) (N : En) (pk : Bool) (ev : Env → List Int → Res D) : TE := fun σ H Q => ∃ env F dr, StR g N.F0 N.H0 σ env F H dr ∧
  (ev env dr).post (fun d dr' => ∀ v H' F', Post g F H F' H' dr' → RepQ g pk F' H' d v → Q v H') (EX g N.W F H σ)
/-- a new object of the frame's own -/
def tMF (g : Gd) (N : En) (ev : Env → List Int → Res D) : TE := fun σ H Q => ∃ env F dr, StR g N.F0 N.H0 σ env F H dr ∧
  (ev env dr).post (fun d dr' => ∀ p H' F', Post g F H F' H' dr' → H p = none → F' p = none → OwnR g F' H' p d → Q (.ref p) H') (EX g N.W F H σ)
def tT (g : Gd) (N : En) (ev : Env → List Int → Res Bool) : TT := fun σ H Q => ∃ env F dr, StR g N.F0 N.H0 σ env F H dr ∧
  (ev env dr).post (fun b dr' => ∀ H' F', Post g F H F' H' dr' → Q b H') (EX g N.W F H σ)
def tA (g : Gd) (N : En) (ev : Env → List Int → Res (List D)) : TA := fun σ H Q => ∃ env F dr, StR g N.F0 N.H0 σ env F H dr ∧
  (ev env dr).post (fun ds dr' => ∀ vs H' F', Post g F H F' H' dr' → Reps g F' ds vs → Q vs H') (EX g N.W F H σ)
def tAp (g : Gd) (N : En) (ev : Env → List Int → Res (List D)) : TA := fun σ H Q => ∃ env F dr, StR g N.F0 N.H0 σ env F H dr ∧
  (ev env dr).post (fun ds dr' => ∀ vs H' F', Post g F H F' H' dr' → RepsQ g F' H' ds vs → Q vs H') (EX g N.W F H σ)
def tO (g : Gd) (N : En) (ev : Env → List Int → Res (Option Int)) : TO := fun σ H Q => ∃ env F dr, StR g N.F0 N.H0 σ env F H dr ∧
  (ev env dr).post (fun o dr' => ∀ H' F', Post g F H F' H' dr' → Q o H') (EX g N.W F H σ)

theorem RepsQ.step {g : Gd} {F H F1 H1 : Hp} {dr : List Int} (a : Post g F H F1 H1 dr) : ∀ {ds : List D} {vs : List V}, RepsQ g F H ds vs → RepsQ g F1 H1 ds vs
  | [], _, h => h
  | d :: ds, _, h => by
    obtain ⟨w, ws, e, r, t⟩ := h
    exact ⟨w, ws, e, r.step a, RepsQ.step a t⟩
theorem PEw' {X : Cx} {e : Expr} {t t' : TE} (h : PE X e t) (i : ∀ σ H Q, t' σ H Q → t σ H Q) : PE X e t' := ⟨fun pins s σ H Q I q => h.run pins s σ H Q I (i _ _ _ q)⟩
theorem PTw' {X : Cx} {e : Expr} {t t' : TT} (h : PT X e t) (i : ∀ σ H Q, t' σ H Q → t σ H Q) : PT X e t' := ⟨fun pins s σ H Q I q => h.run pins s σ H Q I (i _ _ _ q)⟩
theorem PWw' {X : Cx} {e : Expr} {t t' : TT} (h : PW X e t) (i : ∀ σ H Q, t' σ H Q → t σ H Q) : PW X e t' := ⟨fun whole pins s σ H Q I q => h.run whole pins s σ H Q I (i _ _ _ q)⟩
theorem PAw' {X : Cx} {e : List Expr} {t t' : TA} (h : PA X e t) (i : ∀ σ H Q, t' σ H Q → t σ H Q) : PA X e t' := ⟨fun pos pins s σ H Q I q => h.run pos pins s σ H Q I (i _ _ _ q)⟩
theorem POw' {X : Cx} {e : Option Expr} {t t' : TO} (h : PO X e t) (i : ∀ σ H Q, t' σ H Q → t σ H Q) : PO X e t' := ⟨fun pins s σ H Q I q => h.run pins s σ H Q I (i _ _ _ q)⟩
theorem PSw' {X : Cx} {st : Stmt} {t t' : TS} (h : PS X st t) (i : ∀ D σ H, t' D σ H → t D σ H) : PS X st t' := ⟨fun pins s σ H D I q => h.run pins s σ H D I (i _ _ _ q)⟩
theorem PSsw' {X : Cx} {st : List Stmt} {t t' : TS} (h : PSs X st t) (i : ∀ D σ H, t' D σ H → t D σ H) : PSs X st t' := ⟨fun pins s σ H D I q => h.run pins s σ H D I (i _ _ _ q)⟩

theorem Res.bind_assoc {α β γ : Type} (r : Res α) (f : α → List Int → Res β) (h : β → List Int → Res γ) : (r.bind f).bind h = r.bind fun a dr => (f a dr).bind h := by cases r <;> rfl
section
variable {g : Gd} {N : En} {F H F1 H1 : Hp} {dr dr1 : List Int} {d : D} {Q : VK} {pk : Bool}
theorem kont_of (k : ∀ v H' F', Post g F H F' H' dr1 → RepQ g pk F' H' d v → Q v H') (a : Post g F H F1 H1 dr1) : Kont g F1 H1 d Q :=
  ⟨fun v r => k v H1 F1 a (.inl r), fun p o hp r => k _ _ _ (a.alloc hp) (.inl r)⟩
theorem free_before (a : Post g F H F1 H1 dr1) {p : Addr} (hp : H1 p = none) : H p = none := by
  cases q : H p with
  | none => rfl
  | some o =>
    rw [a.old p o q (a.pne hp)] at hp
    cases hp
/-- an operator's answer, known -/
theorem kontX_of (k : ∀ v H' F', Post g F H F' H' dr1 → RepQ g pk F' H' d v → Q v H') (a : Post g F H F1 H1 dr1) : KontX g F1 H1 d Q := by
  cases d with
  | lst ds => exact fun p o hp r => k (.ref p) _ _ (a.alloc hp) (.inl (OwnR.rep r (sub_upd (a.s.free hp)) fun o' e => by rw [upd_same] at e ⊢; exact e))
  | dicK _ _ => trivial
  | dicT _ _ => trivial
  | _ => exact kont_of k a
/-- an operator's answer, a new one -/
theorem konF_of {E : Ex → List Int → Prop} (k : (ofO (freshD d) dr1).post (fun d dr' => ∀ p H' F', Post g F H F' H' dr' → H p = none → F' p = none → OwnR g F' H' p d → Q (.ref p) H') E) (a : Post g F H F1 H1 dr1) : KontX g F1 H1 d Q := by
  cases d with
  | lst ds => exact fun p o hp r => (show ∀ p H' F', Post g F H F' H' dr1 → H p = none → F' p = none → OwnR g F' H' p (.lst ds) → Q (.ref p) H' from k) p _ F1 (a.allocH hp) (free_before a hp) (a.s.free hp) r
  | dicK _ _ => trivial
  | dicT _ _ => trivial
  | _ => exact (show False from k).elim
end
section
variable {X : Cx} {ad : Option Addr} {N : En} {e : Expr}
/-- a new one becomes known: a dict is locked -/
theorem m_thaw {pk : Bool} {ev : Env → List Int → Res D} (h : PE X e (tMF (gd X ad) N ev)) : PE X e (tM (gd X ad) N pk ev) := by
  refine ⟨fun pins s σ H Q I ⟨env, F, dr, st, k⟩ => ?_⟩
  refine thn (h.run pins s σ H (fun v H' => Q v H' ∨ ∃ p u, v = .ref p ∧ H' p = some u ∧ Mut (some u) ∧ ∀ od, Q (.ref p) (upd H' p (.frz od u))) I ⟨env, F, dr, st, k.imp (fun d dr' k p H' F' a hp hf r => ?_) fun e dr z cls dd H' F' b x => z cls dd H' F' b x⟩) fun v s1 ⟨x, H1, I1, rx, q⟩ => ?_
  · have hn : some p ≠ (gd X ad).ad := st.po.pne hp
    cases d with
    | lst ds =>
      obtain ⟨o, ho⟩ := r.there
      exact .inl (k _ H' _ (a.frz hp hf hn ho) (.inl (OwnR.rep r (sub_upd hf) fun o' e => by rw [ho] at e; cases e; exact upd_same)))
    | dicK ks ds =>
      obtain ⟨n, l, l2, vs, ho, rr⟩ := r
      exact .inr ⟨p, _, rfl, ho, trivial, fun od => k _ _ _ ((a.mut hp hf hn).frz hp hf hn upd_same) (.inl ⟨n, l, l2, p, vs, od, rfl, upd_same, Reps.mono (sub_upd hf) _ _ rr⟩)⟩
    | dicT ks ds =>
      obtain ⟨n, l, l2, vs, ho, rr⟩ := r
      exact .inr ⟨p, _, rfl, ho, trivial, fun od => k _ _ _ ((a.mut hp hf hn).frz hp hf hn upd_same) (.inl ⟨n, l, l2, p, vs, od, rfl, upd_same, Reps.mono (sub_upd hf) _ _ rr⟩)⟩
    | _ => exact False.elim r
  · rcases q with q | ⟨p, u, rfl, hp, mu, q⟩
    · exact ⟨x, H1, I1, rx, q⟩
    · obtain ⟨od, I2⟩ := I1.lock hp mu
      exact ⟨_, _, I2, rx, q od⟩
theorem m_fresh {ev : Env → List Int → Res D} (h : PE X e (tMF (gd X ad) N ev)) : PE X e (tMF (gd X ad) N (fun env dr => (ev env dr).bind fun d dr => ofO (freshD d) dr)) := PEw' h fun σ H Q ⟨env, F, dr, st, k⟩ => by
  refine ⟨env, F, dr, st, (post_bind k).imp (fun d dr1 k1 => ?_) fun _ _ z => z⟩
  cases d with
  | lst ds => exact k1
  | dicK ks ds => exact k1
  | dicT ks ds => exact k1
  | _ => exact (show False from k1).elim
/-- one operand, then what is wanted of it: a new object -/
theorem oneF {ea : Env → List Int → Res D} {pa : Bool} {σ : L2.St} {H : Hp} {env : Env} {F : Hp} {dr : List Int} {f : D → List Int → Res D} {Q : VK} {R : VK} (st : StR (gd X ad) N.F0 N.H0 σ env F H dr)
    (h : ((ea env dr).bind f).post (fun d dr' => ∀ p H' F', Post (gd X ad) F H F' H' dr' → H p = none → F' p = none → OwnR (gd X ad) F' H' p d → Q (.ref p) H') (EX (gd X ad) N.W F H σ))
    (k : ∀ x dr1 v H1 F1, StR (gd X ad) N.F0 N.H0 σ env F1 H1 dr1 → Post (gd X ad) F H F1 H1 dr1 → RepQ (gd X ad) pa F1 H1 x v →
      (f x dr1).post (fun d dr' => ∀ p H' F', Post (gd X ad) F1 H1 F' H' dr' → H1 p = none → F' p = none → OwnR (gd X ad) F' H' p d → Q (.ref p) H') (EX (gd X ad) N.W F1 H1 σ) → R v H1) : tM (gd X ad) N pa ea σ H R := by
  refine ⟨env, F, dr, st, (post_bind h).imp (fun x dr1 h1 v H1 F1 a r1 => ?_) fun _ _ z => z⟩
  exact k x dr1 v H1 F1 (st.step a) a r1 (h1.imp (fun d dr' z p H' F' b hp hf r' => z p H' F' (a.trans b) (free_before a hp) hf r') fun e dr' z => EX.step a e dr' z)
end

section
variable {X : Cx} {ad : Option Addr} {N : En} {pk : Bool} {pos : Pos} {e l r : Expr}

theorem m_const {x : V} {d : D} {dd : Env → List Int → Res D} (h : PE X e (tC x)) (r : ∀ F, Rep (gd X ad) F d x) (ev : ∀ env dr, dd env dr = .ok d dr) : PE X e (tM (gd X ad) N pk dd) := PEw' h fun σ H Q ⟨env, F, dr, st, k⟩ => by
  rw [ev] at k
  exact k x H F st.po.self (.inl (r F))
theorem m_var {i : Nat} (h : PE X e (tVar i)) : PE X e (tM (gd X ad) N pk (fun env dr => ofO (if pk then varP (get env i) else varS (get env i)) dr)) := PEw' h fun σ H Q ⟨env, F, dr, st, k⟩ => by
  obtain ⟨d, e1, k⟩ := post_ofO k
  have sl := st.slot i
  cases pk with
  | false =>
    have e1 : varS (get env i) = some d := e1
    cases e2 : get env i with
    | no => rw [e2] at e1; cases e1
    | own d' => rw [e2] at e1; cases e1
    | val d' =>
      rw [e2] at e1 sl
      cases e1
      obtain ⟨v, e3, r⟩ := sl
      exact ⟨v, e3, k v H F st.po.self (.inl r)⟩
  | true =>
    have e1 : varP (get env i) = some d := e1
    cases e2 : get env i with
    | no => rw [e2] at e1; cases e1
    | own d' =>
      rw [e2] at e1 sl
      cases e1
      obtain ⟨p, e3, f, h0, n, r⟩ := sl
      exact ⟨.ref p, e3, k _ H F st.po.self (.inr ⟨rfl, p, rfl, n, r⟩)⟩
    | val d' =>
      rw [e2] at e1 sl
      cases e1
      obtain ⟨v, e3, r⟩ := sl
      exact ⟨v, e3, k v H F st.po.self (.inl r)⟩
/-- one operand, then what is wanted of it -/
theorem one {ea : Env → List Int → Res D} {pa : Bool} {σ : L2.St} {H : Hp} {env : Env} {F : Hp} {dr : List Int} {f : D → List Int → Res D} {Q : VK} {R : VK} (st : StR (gd X ad) N.F0 N.H0 σ env F H dr)
    (h : ((ea env dr).bind f).post (fun d dr' => ∀ v H' F', Post (gd X ad) F H F' H' dr' → RepQ (gd X ad) pk F' H' d v → Q v H') (EX (gd X ad) N.W F H σ))
    (k : ∀ x dr1 v H1 F1, StR (gd X ad) N.F0 N.H0 σ env F1 H1 dr1 → Post (gd X ad) F H F1 H1 dr1 → RepQ (gd X ad) pa F1 H1 x v →
      (f x dr1).post (fun d dr' => ∀ v H' F', Post (gd X ad) F1 H1 F' H' dr' → RepQ (gd X ad) pk F' H' d v → Q v H') (EX (gd X ad) N.W F1 H1 σ) → R v H1) : tM (gd X ad) N pa ea σ H R := by
  refine ⟨env, F, dr, st, (post_bind h).imp (fun x dr1 h1 v H1 F1 a r1 => ?_) fun _ _ z => z⟩
  exact k x dr1 v H1 F1 (st.step a) a r1 (h1.imp (fun d dr' z v' H' F' b r' => z v' H' F' (a.trans b) r') fun e dr' z => EX.step a e dr' z)
theorem m_bin {op : BOp} {ea eb : Env → List Int → Res D} (ha : PE X l (tM (gd X ad) N true ea)) (hb : PE X r (tM (gd X ad) N true eb)) :
    PE X (.BinOp l (pyOp op) r pos) (tM (gd X ad) N pk (fun env dr => (ea env dr).bind fun x dr => (eb env dr).bind fun y dr => ofO (binD op x y) dr)) := PEw' (pe_op (op_bin (ad := ad) op) ha hb) fun σ H Q ⟨env, F, dr, st, k⟩ => by
  refine one st k fun x dr1 v H1 F1 st1 a r1 k1 => ?_
  refine one st1 k1 fun y dr2 w H2 F2 st2 b r2 k2 => ?_
  obtain ⟨d, e1, k3⟩ := post_ofO k2
  exact ⟨F2, x, y, d, st2.po.s, r1.step b, r2, e1, kontX_of k3 st2.po.self⟩
theorem m_binF {op : BOp} {ea eb : Env → List Int → Res D} (ha : PE X l (tM (gd X ad) N true ea)) (hb : PE X r (tM (gd X ad) N true eb)) :
    PE X (.BinOp l (pyOp op) r pos) (tMF (gd X ad) N (fun env dr => ((ea env dr).bind fun x dr => (eb env dr).bind fun y dr => ofO (binD op x y) dr).bind fun d dr => ofO (freshD d) dr)) := PEw' (pe_op (op_bin (ad := ad) op) ha hb) fun σ H Q ⟨env, F, dr, st, k⟩ => by
  dsimp only at k
  rw [Res.bind_assoc] at k
  refine oneF st k fun x dr1 v H1 F1 st1 a r1 k1 => ?_
  rw [Res.bind_assoc] at k1
  refine oneF st1 k1 fun y dr2 w H2 F2 st2 b r2 k2 => ?_
  obtain ⟨d, e1, k3⟩ := post_ofO (post_bind k2)
  exact ⟨F2, x, y, d, st2.po.s, r1.step b, r2, e1, konF_of k3 st2.po.self⟩
theorem m_neg {ea : Env → List Int → Res D} (ha : PE X l (tM (gd X ad) N true ea)) : PE X (.UnaryOp .USub l pos) (tM (gd X ad) N pk (fun env dr => (ea env dr).bind fun x dr => ofO (match x with
    | .int i => some (.int (-i))
    | _ => none) dr)) := PEw' (pe_un un_neg ha) fun σ H Q ⟨env, F, dr, st, k⟩ => by
  refine one st k fun x dr1 v H1 F1 st1 a r1 k1 => ?_
  obtain ⟨d, e1, k3⟩ := post_ofO k1
  cases x <;> try (cases e1; done)
  cases e1
  cases rq_int r1
  exact ⟨_, rfl, k3 _ _ _ st1.po.self (.inl rfl)⟩
theorem m_cmp {op : COp} {ea eb : Env → List Int → Res D} (hu : X.A.units + 65 < cLine) (hm : behindInMarks (pyCm op) r = false) (ha : PE X l (tM (gd X ad) N true ea)) (hb : PE X r (tM (gd X ad) N true eb)) :
    PE X (.Compare l [pyCm op] [r] pos) (tM (gd X ad) N pk (fun env dr => (ea env dr).bind fun x dr => (eb env dr).bind fun y dr => ofO ((cmpD op x y).map .bl) dr)) := PEw' (pe_cmpR (op_cm (ad := ad) op hu) ha hb hm) fun σ H Q ⟨env, F, dr, st, k⟩ => by
  refine one st k fun x dr1 v H1 F1 st1 a r1 k1 => ?_
  refine one st1 k1 fun y dr2 w H2 F2 st2 b r2 k2 => ?_
  obtain ⟨d, e1, k3⟩ := post_ofO k2
  cases q : cmpD op x y with
  | none => rw [q] at e1; cases e1
  | some c =>
    rw [q] at e1
    cases e1
    exact ⟨F2, x, y, c, st2.po.s, r1.step b, r2, q, k3 _ _ _ st2.po.self (.inl rfl)⟩
/-- two operands, then a test's end -/
theorem oneT {ea : Env → List Int → Res D} {pa : Bool} {σ : L2.St} {H : Hp} {env : Env} {F : Hp} {dr : List Int} {f : D → List Int → Res Bool} {Q : Bool → Hp → Prop} {R : VK} (st : StR (gd X ad) N.F0 N.H0 σ env F H dr)
    (h : ((ea env dr).bind f).post (fun b dr' => ∀ H' F', Post (gd X ad) F H F' H' dr' → Q b H') (EX (gd X ad) N.W F H σ))
    (k : ∀ x dr1 v H1 F1, StR (gd X ad) N.F0 N.H0 σ env F1 H1 dr1 → Post (gd X ad) F H F1 H1 dr1 → RepQ (gd X ad) pa F1 H1 x v →
      (f x dr1).post (fun b dr' => ∀ H' F', Post (gd X ad) F1 H1 F' H' dr' → Q b H') (EX (gd X ad) N.W F1 H1 σ) → R v H1) : tM (gd X ad) N pa ea σ H R := by
  refine ⟨env, F, dr, st, (post_bind h).imp (fun x dr1 h1 v H1 F1 a r1 => ?_) fun _ _ z => z⟩
  exact k x dr1 v H1 F1 (st.step a) a r1 (h1.imp (fun d dr' z H' F' b => z H' F' (a.trans b)) fun e dr' z => EX.step a e dr' z)
theorem n_cmp {op : COp} {ea eb : Env → List Int → Res D} (hu : X.A.units + 65 < cLine) (hm : behindInMarks (pyCm op) r = false) (ha : PE X l (tM (gd X ad) N true ea)) (hb : PE X r (tM (gd X ad) N true eb)) :
    PT X (.Compare l [pyCm op] [r] pos) (tT (gd X ad) N (fun env dr => (ea env dr).bind fun x dr => (eb env dr).bind fun y dr => ofO (cmpD op x y) dr)) := PTw' (pt_cmpR (op_cm (ad := ad) op hu) ha hb hm) fun σ H Q ⟨env, F, dr, st, k⟩ => by
  refine oneT st k fun x dr1 v H1 F1 st1 a r1 k1 => ?_
  refine oneT st1 k1 fun y dr2 w H2 F2 st2 b r2 k2 => ?_
  obtain ⟨d, e1, k3⟩ := post_ofO k2
  exact ⟨F2, x, y, d, st2.po.s, r1.step b, r2, e1, d, rfl, k3 _ _ st2.po.self⟩
theorem isN_V {g : Gd} {F H : Hp} {d : D} {v : V} (h : RepQ g true F H d v) : decide (v = .non) = isNone d := by
  rcases h with h | ⟨_, p, rfl, _, h⟩
  · cases d with
    | non => rw [show v = .non from h]; rfl
    | bl _ => rw [show v = _ from h]; rfl
    | int _ => rw [show v = _ from h]; rfl
    | str _ => rw [show v = _ from h]; rfl
    | tup _ => obtain ⟨_, a, vs, rfl, _⟩ := h; rfl
    | lst _ => obtain ⟨_, a, vs, rfl, _⟩ := h; rfl
    | dicK _ _ => obtain ⟨_, _, _, a, vs, od, rfl, _⟩ := h; rfl
    | dicT _ _ => obtain ⟨_, _, _, a, vs, od, rfl, _⟩ := h; rfl
    | fn _ => obtain ⟨a, rfl, _⟩ := h; rfl
    | drw => obtain ⟨a, _, rfl⟩ := h; rfl
    | ilst _ => obtain ⟨_, a, rfl, _⟩ := h; rfl
  · cases d <;> first | exact h.elim | rfl
theorem m_isN {j : Nat} {p2 : Pos} {ea : Env → List Int → Res D} (ha : PE X l (tM (gd X ad) N true ea)) : PE X (.Compare l [.Is] [.Constant .none j p2] pos) (tM (gd X ad) N pk (fun env dr => (ea env dr).bind fun x dr => .ok (.bl (isNone x)) dr)) := PEw' (pe_cmp (pc_isN ha) rfl) fun σ H Q ⟨env, F, dr, st, k⟩ => by
  refine one st k fun x dr1 v H1 F1 st1 a r1 k1 => ?_
  rw [isN_V r1]
  exact k1 _ _ _ st1.po.self (.inl rfl)
theorem m_notN {j : Nat} {p2 : Pos} {ea : Env → List Int → Res D} (ha : PE X l (tM (gd X ad) N true ea)) : PE X (.Compare l [.IsNot] [.Constant .none j p2] pos) (tM (gd X ad) N pk (fun env dr => (ea env dr).bind fun x dr => .ok (.bl (!isNone x)) dr)) := PEw' (pe_cmp (pc_notN ha) rfl) fun σ H Q ⟨env, F, dr, st, k⟩ => by
  refine one st k fun x dr1 v H1 F1 st1 a r1 k1 => ?_
  rw [isN_V r1]
  exact k1 _ _ _ st1.po.self (.inl rfl)
theorem n_isN {j : Nat} {p2 : Pos} {ea : Env → List Int → Res D} (ha : PE X l (tM (gd X ad) N true ea)) : PT X (.Compare l [.Is] [.Constant .none j p2] pos) (tT (gd X ad) N (fun env dr => (ea env dr).bind fun x dr => .ok (isNone x) dr)) := PTw' (pt_cmp (pc_isN ha) rfl) fun σ H Q ⟨env, F, dr, st, k⟩ => by
  refine oneT st k fun x dr1 v H1 F1 st1 a r1 k1 => ?_
  rw [isN_V r1]
  exact ⟨_, rfl, k1 _ _ st1.po.self⟩
theorem n_notN {j : Nat} {p2 : Pos} {ea : Env → List Int → Res D} (ha : PE X l (tM (gd X ad) N true ea)) : PT X (.Compare l [.IsNot] [.Constant .none j p2] pos) (tT (gd X ad) N (fun env dr => (ea env dr).bind fun x dr => .ok (!isNone x) dr)) := PTw' (pt_cmp (pc_notN ha) rfl) fun σ H Q ⟨env, F, dr, st, k⟩ => by
  refine oneT st k fun x dr1 v H1 F1 st1 a r1 k1 => ?_
  rw [isN_V r1]
  exact ⟨_, rfl, k1 _ _ st1.po.self⟩
theorem m_not {ea : Env → List Int → Res D} (ha : PE X l (tM (gd X ad) N true ea)) : PE X (.UnaryOp .Not l pos) (tM (gd X ad) N pk (fun env dr => (ea env dr).bind fun x dr => ofO (match x with
    | .bl b => some (.bl (!b))
    | _ => none) dr)) := PEw' (pe_not ha) fun σ H Q ⟨env, F, dr, st, k⟩ => by
  refine one st k fun x dr1 v H1 F1 st1 a r1 k1 => ?_
  obtain ⟨d, e1, k3⟩ := post_ofO k1
  cases x <;> try (cases e1; done)
  cases e1
  cases rq_bl r1
  exact ⟨_, rfl, k3 _ _ _ st1.po.self (.inl rfl)⟩
/-- truth of a value -/
theorem tru_V {F H : Hp} {d : D} {v : V} {b : Bool} (h : RepQ (gd X ad) true F H d v) (s : Sub F H) (e : d.tru = some b) : TruV X.K v H b := by
  cases d with
  | non => cases e; cases rq_non h; rfl
  | bl c => cases e; cases rq_bl h; rfl
  | int i => cases e; cases rq_int h; rfl
  | str z =>
    obtain ⟨h1, rfl⟩ := grd_some e
    cases rq_str h
    refine ⟨szOk_le h1, ?_⟩
    cases q : z.length with
    | zero => rfl
    | succ n =>
      symm
      exact bne_iff_ne.mpr (by omega)
  | tup ds =>
    cases e
    obtain ⟨p, vs, rfl, h1, t, _⟩ := rq_tup h s
    refine .inr (.inl ⟨vs, .of h1, ?_⟩)
    have := t.len
    cases vs <;> cases ds <;> first | rfl | (simp at this)
  | lst ds =>
    cases e
    obtain ⟨p, vs, rfl, h1, t, _⟩ := rq_lst h s
    refine .inl ⟨vs, .of h1, ?_⟩
    have := t.len
    cases vs <;> cases ds <;> first | rfl | (simp at this)
  | _ => cases e
/-- a test by a value's truth -/
theorem n_tru {ea : Env → List Int → Res D} {pa : Bool} (ha : PE X e (tM (gd X ad) N true ea)) (he : ∀ whole, isTrue e X.env whole = (do let v ← whole; standAt e.pos; holding [v] (truthy v))) :
    PT X e (tT (gd X ad) N (fun env dr => (ea env dr).bind fun x dr => ofO x.tru dr)) := PTw' (pt_truth ha he) fun σ H Q ⟨env, F, dr, st, k⟩ => by
  refine oneT st k fun x dr1 v H1 F1 st1 a r1 k1 => ?_
  obtain ⟨d, e1, k3⟩ := post_ofO k1
  exact ⟨d, tru_V r1 st1.po.s e1, k3 _ _ st1.po.self⟩
theorem n_not {ea : Env → List Int → Res Bool} (ha : PT X l (tT (gd X ad) N ea)) : PT X (.UnaryOp .Not l pos) (tT (gd X ad) N (fun env dr => (ea env dr).bind fun b dr => .ok (!b) dr)) := PTw' (pt_not ha) fun σ H Q ⟨env, F, dr, st, k⟩ =>
  ⟨env, F, dr, st, (post_bind k).imp (fun _ _ z => z) fun _ _ z => z⟩
theorem n_and1 {ea : Env → List Int → Res Bool} (ha : PT X l (tT (gd X ad) N ea)) : PW X (.BoolOp .And [l] pos) (tT (gd X ad) N ea) := pw_and1 ha
theorem n_or1 {ea : Env → List Int → Res Bool} (ha : PT X l (tT (gd X ad) N ea)) : PW X (.BoolOp .Or [l] pos) (tT (gd X ad) N ea) := pw_or1 ha
theorem n_and {es : List Expr} {ea eb : Env → List Int → Res Bool} (ha : PT X l (tT (gd X ad) N ea)) (hb : PW X (.BoolOp .And (r :: es) pos) (tT (gd X ad) N eb)) :
    PW X (.BoolOp .And (l :: r :: es) pos) (tT (gd X ad) N (fun env dr => (ea env dr).bind fun b dr => match b with
    | true => eb env dr
    | false => .ok false dr)) := PWw' (pw_and ha hb) fun σ H Q ⟨env, F, dr, st, k⟩ => by
  refine ⟨env, F, dr, st, (post_bind k).imp (fun b dr1 h1 H1 F1 a => ?_) fun _ _ z => z⟩
  cases b with
  | true =>
    rw [if_pos rfl]
    exact ⟨env, F1, dr1, st.step a, h1.imp (fun d dr' z H' F' b => z H' F' (a.trans b)) fun e dr' z => EX.step a e dr' z⟩
  | false =>
    rw [if_neg Bool.false_ne_true]
    exact h1 H1 F1 a
theorem n_or {es : List Expr} {ea eb : Env → List Int → Res Bool} (ha : PT X l (tT (gd X ad) N ea)) (hb : PW X (.BoolOp .Or (r :: es) pos) (tT (gd X ad) N eb)) :
    PW X (.BoolOp .Or (l :: r :: es) pos) (tT (gd X ad) N (fun env dr => (ea env dr).bind fun b dr => match b with
    | true => .ok true dr
    | false => eb env dr)) := PWw' (pw_or ha hb) fun σ H Q ⟨env, F, dr, st, k⟩ => by
  refine ⟨env, F, dr, st, (post_bind k).imp (fun b dr1 h1 H1 F1 a => ?_) fun _ _ z => z⟩
  cases b with
  | true =>
    rw [if_pos rfl]
    exact h1 H1 F1 a
  | false =>
    rw [if_neg Bool.false_ne_true]
    exact ⟨env, F1, dr1, st.step a, h1.imp (fun d dr' z H' F' b => z H' F' (a.trans b)) fun e dr' z => EX.step a e dr' z⟩
theorem m_and {es : List Expr} {ea eb : Env → List Int → Res D} (ha : PE X l (tM (gd X ad) N true ea)) (hb : PE X (.BoolOp .And (r :: es) pos) (tM (gd X ad) N pk eb)) :
    PE X (.BoolOp .And (l :: r :: es) pos) (tM (gd X ad) N pk (fun env dr => (ea env dr).bind fun x dr => match x with
    | .bl true => eb env dr
    | .bl false => .ok (.bl false) dr
    | _ => .bad)) := PEw' (pe_and ha hb) fun σ H Q ⟨env, F, dr, st, k⟩ => by
  refine one st k fun x dr1 v H1 F1 st1 a r1 k1 => ?_
  cases x <;> try (exact (False.elim k1); done)
  rename_i b
  cases rq_bl r1
  refine ⟨b, rfl, ?_⟩
  cases b with
  | true =>
    rw [if_pos rfl]
    exact ⟨env, F1, dr1, st1, k1⟩
  | false =>
    rw [if_neg Bool.false_ne_true]
    exact k1 _ _ _ st1.po.self (.inl rfl)
theorem m_or {es : List Expr} {ea eb : Env → List Int → Res D} (ha : PE X l (tM (gd X ad) N true ea)) (hb : PE X (.BoolOp .Or (r :: es) pos) (tM (gd X ad) N pk eb)) :
    PE X (.BoolOp .Or (l :: r :: es) pos) (tM (gd X ad) N pk (fun env dr => (ea env dr).bind fun x dr => match x with
    | .bl true => .ok (.bl true) dr
    | .bl false => eb env dr
    | _ => .bad)) := PEw' (pe_or ha hb) fun σ H Q ⟨env, F, dr, st, k⟩ => by
  refine one st k fun x dr1 v H1 F1 st1 a r1 k1 => ?_
  cases x <;> try (exact (False.elim k1); done)
  rename_i b
  cases rq_bl r1
  refine ⟨b, rfl, ?_⟩
  cases b with
  | true =>
    rw [if_pos rfl]
    exact k1 _ _ _ st1.po.self (.inl rfl)
  | false =>
    rw [if_neg Bool.false_ne_true]
    exact ⟨env, F1, dr1, st1, k1⟩
/-- strict is more -/
theorem m_up {ea : Env → List Int → Res D} (ha : PE X l (tM (gd X ad) N false ea)) : PE X l (tM (gd X ad) N pk ea) := PEw' ha fun σ H Q ⟨env, F, dr, st, k⟩ =>
  ⟨env, F, dr, st, k.imp (fun d dr' z v H' F' b r => z v H' F' b (.inl r.rep)) fun _ _ z => z⟩
theorem m_ife {c : Expr} {et : Env → List Int → Res Bool} {ea eb : Env → List Int → Res D} (hc : PT X c (tT (gd X ad) N et)) (ha : PE X l (tM (gd X ad) N pk ea)) (hb : PE X r (tM (gd X ad) N pk eb)) :
    PE X (.IfExp c l r pos) (tM (gd X ad) N pk (fun env dr => (et env dr).bind fun t dr => match t with
    | true => ea env dr
    | false => eb env dr)) := PEw' (pe_ifExp hc ha hb) fun σ H Q ⟨env, F, dr, st, k⟩ => by
  refine ⟨env, F, dr, st, (post_bind k).imp (fun b dr1 h1 H1 F1 a => ?_) fun _ _ z => z⟩
  cases b with
  | true =>
    rw [if_pos rfl]
    exact ⟨env, F1, dr1, st.step a, h1.imp (fun d dr' z v H' F' b => z v H' F' (a.trans b)) fun e dr' z => EX.step a e dr' z⟩
  | false =>
    rw [if_neg Bool.false_ne_true]
    exact ⟨env, F1, dr1, st.step a, h1.imp (fun d dr' z v H' F' b => z v H' F' (a.trans b)) fun e dr' z => EX.step a e dr' z⟩
/-! rows of expressions -/
theorem a_nil : PA X [] (tA (gd X ad) N (fun _ dr => .ok [] dr)) := PAw' pa_nil fun σ H Q ⟨env, F, dr, st, k⟩ => k [] H F st.po.self rfl
theorem ap_nil : PA X [] (tAp (gd X ad) N (fun _ dr => .ok [] dr)) := PAw' pa_nil fun σ H Q ⟨env, F, dr, st, k⟩ => k [] H F st.po.self rfl
theorem a_cons {es : List Expr} {ea : Env → List Int → Res D} {el : Env → List Int → Res (List D)} (ha : PE X l (tM (gd X ad) N false ea)) (hl : PA X es (tA (gd X ad) N el)) (hs : starEach (l :: es) X.env = (false, eval l X.env) :: starEach es X.env) :
    PA X (l :: es) (tA (gd X ad) N (fun env dr => (ea env dr).bind fun d dr => (el env dr).bind fun ds dr => .ok (d :: ds) dr)) := PAw' (pa_cons ha hl hs) fun σ H Q ⟨env, F, dr, st, k⟩ => by
  refine ⟨env, F, dr, st, (post_bind k).imp (fun d dr1 h1 v H1 F1 a r1 => ?_) fun _ _ z => z⟩
  refine ⟨env, F1, dr1, st.step a, (post_bind h1).imp (fun ds dr2 h2 vs H2 F2 b r2 => ?_) fun e dr' z => EX.step a e dr' z⟩
  exact h2 _ H2 F2 (a.trans b) (Reps.cons (Rep.mono b.f _ _ r1.rep) r2)
theorem ap_cons {es : List Expr} {ea : Env → List Int → Res D} {el : Env → List Int → Res (List D)} (ha : PE X l (tM (gd X ad) N true ea)) (hl : PA X es (tAp (gd X ad) N el)) (hs : starEach (l :: es) X.env = (false, eval l X.env) :: starEach es X.env) :
    PA X (l :: es) (tAp (gd X ad) N (fun env dr => (ea env dr).bind fun d dr => (el env dr).bind fun ds dr => .ok (d :: ds) dr)) := PAw' (pa_cons ha hl hs) fun σ H Q ⟨env, F, dr, st, k⟩ => by
  refine ⟨env, F, dr, st, (post_bind k).imp (fun d dr1 h1 v H1 F1 a r1 => ?_) fun _ _ z => z⟩
  refine ⟨env, F1, dr1, st.step a, (post_bind h1).imp (fun ds dr2 h2 vs H2 F2 b r2 => ?_) fun e dr' z => EX.step a e dr' z⟩
  exact h2 _ H2 F2 (a.trans b) ⟨v, vs, rfl, r1.step b, r2⟩
/-- a row's end: a new tuple, a new list -/
theorem m_tup {es : List Expr} {k : Nat} {el : Env → List Int → Res (List D)} (hl : PA X es (tA (gd X ad) N el)) : PE X (.Tuple es k pos) (tM (gd X ad) N pk (fun env dr => (el env dr).bind fun ds dr => ofO (grd (szOk ds.length) (.tup ds)) dr)) := PEw' (pe_tup hl) fun σ H Q ⟨env, F, dr, st, k⟩ => by
  refine ⟨env, F, dr, st, (post_bind k).imp (fun ds dr1 h1 vs H1 F1 a r1 => ?_) fun _ _ z => z⟩
  obtain ⟨d, e1, k3⟩ := post_ofO h1
  obtain ⟨h2, rfl⟩ := grd_some e1
  have h3 := szOk_le h2
  exact ⟨by rw [r1.len]; exact h3, fun p hp => k3 _ _ _ (a.alloc hp) (.inl (rep_tup (a.s.free hp) r1 h3))⟩
theorem m_lst {es : List Expr} {el : Env → List Int → Res (List D)} (hl : PA X es (tA (gd X ad) N el)) : PE X (.List es pos) (tMF (gd X ad) N (fun env dr => (el env dr).bind fun ds dr => ofO (grd (szOk ds.length) (.lst ds)) dr)) := PEw' (pe_lst hl) fun σ H Q ⟨env, F, dr, st, k⟩ => by
  refine ⟨env, F, dr, st, (post_bind k).imp (fun ds dr1 h1 vs H1 F1 a r1 => ?_) fun _ _ z => z⟩
  obtain ⟨d, e1, k3⟩ := post_ofO h1
  obtain ⟨h2, rfl⟩ := grd_some e1
  have h3 := szOk_le h2
  refine ⟨by rw [r1.len]; exact h3, fun p hp => k3 _ _ _ (a.allocH hp) ?_ (a.s.free hp) (own_lst r1 h3)⟩
  cases q : H p with
  | none => rfl
  | some o =>
    rw [a.old p o q (a.pne hp)] at hp
    cases hp
theorem m_dicE (t : Bool) : PE X (.Dict [] [] pos) (tMF (gd X ad) N (fun _ dr => .ok (if t then .dicT [] [] else .dicK [] []) dr)) := by
  cases t with
  | true => exact PEw' pe_dnewT fun σ H Q ⟨env, F, dr, st, k⟩ p hp => k p _ F (st.po.self.allocH hp) hp (st.po.s.free hp) ⟨.nil, Nat.zero_le _, rfl, [], upd_same, rfl⟩
  | false => exact PEw' pe_dnewK fun σ H Q ⟨env, F, dr, st, k⟩ p hp => k p _ F (st.po.self.allocH hp) hp (st.po.s.free hp) ⟨.nil, Nat.zero_le _, rfl, [], upd_same, rfl⟩
end
end Cr
/-! Calls, places, slices, walks, comprehensions. -/
namespace Cr
open PySem PySem.Spec PyProof.Rows L2

section
variable {X : Cx} {ad : Option Addr} {N : En} {pk : Bool} {pos : Pos} {e l r : Expr}
theorem chain_marks {o1 o2 : CmpOp} {c3 : Expr} (hm : behindInMarks o2 c3 = false) : lastMarks [o1, o2] [r, c3] = false := hm
theorem m_chain {o1 o2 : COp} {c3 : Expr} {ea eb ec : Env → List Int → Res D} (hu : X.A.units + 65 < cLine) (hm : behindInMarks (pyCm o2) c3 = false) (ha : PE X l (tM (gd X ad) N true ea)) (hb : PE X r (tM (gd X ad) N true eb)) (hc : PE X c3 (tM (gd X ad) N true ec)) :
    PE X (.Compare l [pyCm o1, pyCm o2] [r, c3] pos) (tM (gd X ad) N pk (fun env dr => (ea env dr).bind fun x dr => (eb env dr).bind fun y dr => (ofO (cmpD o1 x y) dr).bind fun k dr =>
    match k with
    | true => (ec env dr).bind fun z dr => ofO ((cmpD o2 y z).map .bl) dr
    | false => .ok (.bl false) dr)) := PEw' (pe_chain (op_cm (ad := ad) o1 hu) (op_cm (ad := ad) o2 hu) ha hb hc (chain_marks hm)) fun σ H Q ⟨env, F, dr, st, k⟩ => by
  refine one st k fun x dr1 v H1 F1 st1 a r1 k1 => ?_
  refine one st1 k1 fun y dr2 w H2 F2 st2 b r2 k2 => ?_
  obtain ⟨c, e1, k3⟩ := post_ofO (post_bind k2)
  refine ⟨F2, x, y, c, st2.po.s, r1.step b, r2, e1, c, rfl, ?_⟩
  cases c with
  | true =>
    rw [if_pos rfl]
    refine one st2 k3 fun z dr3 u H3 F3 st3 b3 r3 k4 => ?_
    obtain ⟨d, e2, k5⟩ := post_ofO k4
    cases q : cmpD o2 y z with
    | none => rw [q] at e2; cases e2
    | some c2 =>
      rw [q] at e2
      cases e2
      exact ⟨F3, y, z, c2, st3.po.s, r2.step b3, r3, q, k5 _ _ _ st3.po.self (.inl rfl)⟩
  | false =>
    rw [if_neg Bool.false_ne_true]
    exact k3 _ _ _ st2.po.self (.inl rfl)
theorem n_chain {o1 o2 : COp} {c3 : Expr} {ea eb ec : Env → List Int → Res D} (hu : X.A.units + 65 < cLine) (hm : behindInMarks (pyCm o2) c3 = false) (ha : PE X l (tM (gd X ad) N true ea)) (hb : PE X r (tM (gd X ad) N true eb)) (hc : PE X c3 (tM (gd X ad) N true ec)) :
    PT X (.Compare l [pyCm o1, pyCm o2] [r, c3] pos) (tT (gd X ad) N (fun env dr => (ea env dr).bind fun x dr => (eb env dr).bind fun y dr => (ofO (cmpD o1 x y) dr).bind fun k dr =>
    match k with
    | true => (ec env dr).bind fun z dr => ofO (cmpD o2 y z) dr
    | false => .ok false dr)) := PTw' (pt_chain (op_cm (ad := ad) o1 hu) (op_cm (ad := ad) o2 hu) ha hb hc (chain_marks hm)) fun σ H Q ⟨env, F, dr, st, k⟩ => by
  refine oneT st k fun x dr1 v H1 F1 st1 a r1 k1 => ?_
  refine oneT st1 k1 fun y dr2 w H2 F2 st2 b r2 k2 => ?_
  obtain ⟨c, e1, k3⟩ := post_ofO (post_bind k2)
  refine ⟨F2, x, y, c, st2.po.s, r1.step b, r2, e1, c, rfl, ?_⟩
  cases c with
  | true =>
    rw [if_pos rfl]
    refine oneT st2 k3 fun z dr3 u H3 F3 st3 b3 r3 k4 => ?_
    obtain ⟨c2, e2, k5⟩ := post_ofO k4
    exact ⟨F3, y, z, c2, st3.po.s, r2.step b3, r3, e2, c2, rfl, k5 _ _ st3.po.self⟩
  | false =>
    rw [if_neg Bool.false_ne_true]
    exact ⟨false, rfl, k3 _ _ st2.po.self⟩

/-! ### calls -/
/-- what a def that keeps to the trees promises -/
def spD (K : PySem.W.Frag) (mg : Str → Option Value) (n : Nat) (fn : List D → List Int → Res D) : Sp := fun vs H Q E => vs.length = n ∧ ∃ (ad : Option Addr) (F : Hp) (ds : List D) (dr : List Int), Sub F H ∧ (∀ a, ad = some a → F a = none) ∧ (∀ a, ad = some a → H a = some (.lst (dr.reverse.map V.int))) ∧ Reps ⟨K, mg, ad⟩ F ds vs ∧
  (fn ds dr).post (fun d dr' => ∀ v H' F', Post ⟨K, mg, ad⟩ F H F' H' dr' → Rep ⟨K, mg, ad⟩ F' d v → Q v H') (fun e dr' => ∀ cls dd H' F', Post ⟨K, mg, ad⟩ F H F' H' dr' → ExR ⟨K, mg, ad⟩ F' H' e cls dd → E cls dd H')
/-- a def by its name, and what it promises -/
structure FnG (X : Cx) (k : Nat) (x : Str) (n : Nat) (fn : List D → List Int → Res D) : Prop where
  ex : ∃ f fd ps, X.mg x = some (.ref f) ∧ PySem.W.keepIn X.K (.ref f) = true ∧ Binds X.K fd ps [] ∧ FnOk X.prog X.w X.K X.mg X.base (L2N.CX X.prog X.w) k f fd ps (spD X.K X.mg n fn)
theorem tA_one {el : Env → List Int → Res (List D)} {σ : L2.St} {H : Hp} {env : Env} {F : Hp} {dr : List Int} {f : List D → List Int → Res D} {Q : VK} {R : List V → Hp → Prop} (st : StR (gd X ad) N.F0 N.H0 σ env F H dr)
    (h : ((el env dr).bind f).post (fun d dr' => ∀ v H' F', Post (gd X ad) F H F' H' dr' → RepQ (gd X ad) pk F' H' d v → Q v H') (EX (gd X ad) N.W F H σ))
    (k : ∀ ds dr1 vs H1 F1, StR (gd X ad) N.F0 N.H0 σ env F1 H1 dr1 → Post (gd X ad) F H F1 H1 dr1 → Reps (gd X ad) F1 ds vs →
      (f ds dr1).post (fun d dr' => ∀ v H' F', Post (gd X ad) F1 H1 F' H' dr' → RepQ (gd X ad) pk F' H' d v → Q v H') (EX (gd X ad) N.W F1 H1 σ) → R vs H1) : tA (gd X ad) N el σ H R := by
  refine ⟨env, F, dr, st, (post_bind h).imp (fun x dr1 h1 v H1 F1 a r1 => ?_) fun _ _ z => z⟩
  exact k x dr1 v H1 F1 (st.step a) a r1 (h1.imp (fun d dr' z v' H' F' b r' => z v' H' F' (a.trans b) r') fun e dr' z => EX.step a e dr' z)
theorem tAp_one {el : Env → List Int → Res (List D)} {σ : L2.St} {H : Hp} {env : Env} {F : Hp} {dr : List Int} {f : List D → List Int → Res D} {Q : VK} {R : List V → Hp → Prop} (st : StR (gd X ad) N.F0 N.H0 σ env F H dr)
    (h : ((el env dr).bind f).post (fun d dr' => ∀ v H' F', Post (gd X ad) F H F' H' dr' → RepQ (gd X ad) pk F' H' d v → Q v H') (EX (gd X ad) N.W F H σ))
    (k : ∀ ds dr1 vs H1 F1, StR (gd X ad) N.F0 N.H0 σ env F1 H1 dr1 → Post (gd X ad) F H F1 H1 dr1 → RepsQ (gd X ad) F1 H1 ds vs →
      (f ds dr1).post (fun d dr' => ∀ v H' F', Post (gd X ad) F1 H1 F' H' dr' → RepQ (gd X ad) pk F' H' d v → Q v H') (EX (gd X ad) N.W F1 H1 σ) → R vs H1) : tAp (gd X ad) N el σ H R := by
  refine ⟨env, F, dr, st, (post_bind h).imp (fun x dr1 h1 v H1 F1 a r1 => ?_) fun _ _ z => z⟩
  exact k x dr1 v H1 F1 (st.step a) a r1 (h1.imp (fun d dr' z v' H' F' b r' => z v' H' F' (a.trans b) r') fun e dr' z => EX.step a e dr' z)
theorem tAp_oneF {el : Env → List Int → Res (List D)} {σ : L2.St} {H : Hp} {env : Env} {F : Hp} {dr : List Int} {f : List D → List Int → Res D} {Q : VK} {R : List V → Hp → Prop} (st : StR (gd X ad) N.F0 N.H0 σ env F H dr)
    (h : ((el env dr).bind f).post (fun d dr' => ∀ p H' F', Post (gd X ad) F H F' H' dr' → H p = none → F' p = none → OwnR (gd X ad) F' H' p d → Q (.ref p) H') (EX (gd X ad) N.W F H σ))
    (k : ∀ ds dr1 vs H1 F1, StR (gd X ad) N.F0 N.H0 σ env F1 H1 dr1 → Post (gd X ad) F H F1 H1 dr1 → RepsQ (gd X ad) F1 H1 ds vs →
      (f ds dr1).post (fun d dr' => ∀ p H' F', Post (gd X ad) F1 H1 F' H' dr' → H1 p = none → F' p = none → OwnR (gd X ad) F' H' p d → Q (.ref p) H') (EX (gd X ad) N.W F1 H1 σ) → R vs H1) : tAp (gd X ad) N el σ H R := by
  refine ⟨env, F, dr, st, (post_bind h).imp (fun x dr1 h1 v H1 F1 a r1 => ?_) fun _ _ z => z⟩
  exact k x dr1 v H1 F1 (st.step a) a r1 (h1.imp (fun d dr' z p H' F' b hp hf r' => z p H' F' (a.trans b) (free_before a hp) hf r') fun e dr' z => EX.step a e dr' z)
theorem call_run {k n : Nat} {fn : List D → List Int → Res D} {f : Addr} {fd : FuncData} {ps : List Str} {ds : List D} {vs : List V} {F H : Hp} {dr : List Int} {σ : L2.St} {Q : VK} (st : Post (gd X ad) F H F H dr) (hn : vs.length = n) (r : Reps (gd X ad) F ds vs)
    (h : (fn ds dr).post (fun d dr' => ∀ v H' F', Post (gd X ad) F H F' H' dr' → RepQ (gd X ad) pk F' H' d v → Q v H') (EX (gd X ad) N.W F H σ)) : spD X.K X.mg n fn vs H Q (WE N.W σ) :=
  ⟨hn, ad, F, ds, dr, st.s, st.fd, st.dr, r, h.imp (fun d dr' z v H' F' a r' => z v H' F' a (.inl r')) fun e dr' z => z⟩
theorem m_call {x : Str} {p : Pos} {es : List Expr} {k n : Nat} {fn : List D → List Int → Res D} {el : Env → List Int → Res (List D)} (G : FnG X k x n fn) (hr : Room k X.A) (hg : Gl X x) (hdb : (x == ("__debug__" : Str)) = false) (tk : ∀ σ, PassesAt (L2N.CX X.prog X.w) X σ (WE N.W σ))
    (ha : PA X (l :: es) (tA (gd X ad) N el)) (hn : (l :: es).length = n) (hl : ∀ env dr ds dr', el env dr = .ok ds dr' → ds.length = n) (he : starEach (l :: es) X.env = (false, eval l X.env) :: starEach es X.env) (hpl : (backTo pos (starEach es X.env)).any (·.1) = false) :
    PE X (.Call (.Name x p) (l :: es) [] pos) (tM (gd X ad) N pk (fun env dr => (el env dr).bind fun ds dr => fn ds dr)) := by
  obtain ⟨f, fd, ps, hm, hk, hb, F⟩ := G.ex
  refine PEw' (pe_callS (E := WE N.W) F hr hg hm hk hb tk ha hdb he hpl) fun σ H Q ⟨env, F, dr, st, k⟩ => ?_
  refine ⟨env, F, dr, st, ?_⟩
  have k' := post_bind k
  cases q : el env dr with
  | bad => rw [q] at k'; exact k'
  | exc e dr1 => rw [q] at k'; exact k'
  | ok ds dr1 =>
    rw [q] at k'
    show ∀ vs H' F', _ → _ → _
    intro vs H1 F1 a r1
    have h1 : (fn ds dr1).post _ _ := k'
    exact call_run (N := N) (pk := pk) (k := 0) (f := f) (fd := fd) (ps := ps) (st.step a).po.self (by rw [r1.len]; exact hl _ _ _ _ q) r1 (h1.imp (fun d dr' z v' H' F' b r' => z v' H' F' (a.trans b) r') fun e dr' z => EX.step a e dr' z)
/-- a call of a value -/
theorem m_callv {fe : Expr} {es : List Expr} {k : Nat} {G : Cfg} {ef : Env → List Int → Res D} {el : Env → List Int → Res (List D)} (fns : ∀ x n, G.ar x = some n → ∃ fn, G.fns x = some fn ∧ FnG X k x n fn) (hr : Room k X.A) (tk : ∀ σ, PassesAt (L2N.CX X.prog X.w) X σ (WE N.W σ))
    (hf : PE X fe (tM (gd X ad) N true ef)) (ha : PA X (l :: es) (tA (gd X ad) N el)) (he : starEach (l :: es) X.env = (false, eval l X.env) :: starEach es X.env) (hpl : (backTo pos (starEach es X.env)).any (·.1) = false)
    (ht : eval (.Call fe (l :: es) [] pos) X.env = (do callWith pos (← eval fe X.env) [] (backTo pos (starEach (l :: es) X.env)) (backToKw pos (keywordEach [] X.env)))) :
    PE X (.Call fe (l :: es) [] pos) (tM (gd X ad) N pk (fun env dr => (ef env dr).bind fun x dr => (ofO (fnOf G x) dr).bind fun q dr => (el env dr).bind fun ds dr => if ds.length = q.2 then q.1 ds dr else .bad)) := by
  refine ⟨fun pins s σ H Q I ⟨env, F, dr, st, k1⟩ => ?_⟩
  refine Call_ (thn (hf.run pins s σ H (fun y H1 => ∃ F1 dr1 x, StR (gd X ad) N.F0 N.H0 σ env F1 H1 dr1 ∧ RepQ (gd X ad) true F1 H1 x y ∧
    ((ofO (fnOf G x) dr1).bind fun q dr => (el env dr).bind fun ds dr => if ds.length = q.2 then q.1 ds dr else .bad).post (fun d dr' => ∀ v H' F', Post (gd X ad) F1 H1 F' H' dr' → RepQ (gd X ad) pk F' H' d v → Q v H') (EX (gd X ad) N.W F1 H1 σ)) I
    (one st k1 fun x dr1 v H1 F1 st1 a r1 k2 => ⟨F1, dr1, x, st1, r1, k2⟩)) fun u s1 ⟨y, H1, I1, ry, F1, dr1, x, st1, r1, k2⟩ => ?_) ht
  obtain ⟨q, e1, k3⟩ := post_ofO (post_bind k2)
  cases x <;> try (cases e1; done)
  rename_i f
  have e2 : (match G.fns f, G.ar f with | some g, some n => some (g, n) | _, _ => none) = some q := e1
  cases q2 : G.ar f with
  | none => rw [q2] at e2; cases h : G.fns f <;> rw [h] at e2 <;> cases e2
  | some n =>
    obtain ⟨fn, q1, g⟩ := fns f n q2
    rw [q1, q2] at e2
    cases e2
    obtain ⟨a, fd, ps, hm, hk, hb, FF⟩ := g.ex
    obtain ⟨b, rfl, hb2⟩ := rq_fn r1
    have hb2 : X.mg f = some (.ref b) := hb2
    rw [hm] at hb2
    cases hb2
    cases (show u = Value.ref a from ry)
    have hspec : tA (gd X ad) N el σ H1 (fun vs H2 => spD X.K X.mg n fn vs H2 Q (WE N.W σ)) := by
      refine ⟨env, F1, dr1, st1, ?_⟩
      have k' := post_bind k3
      cases q : el env dr1 with
      | bad => rw [q] at k'; exact k'
      | exc e dr2 => rw [q] at k'; exact k'
      | ok ds dr2 =>
        rw [q] at k'
        show ∀ vs H' F', _ → _ → _
        intro vs H2 F2 a2 r2
        have h1 : (if ds.length = n then fn ds dr2 else Res.bad).post _ _ := k'
        split at h1
        · rename_i hn
          exact call_run (N := N) (pk := pk) (k := 0) (f := a) (fd := fd) (ps := ps) (st1.step a2).po.self (by rw [r2.len]; exact hn) r2 (h1.imp (fun d dr' z v' H' F' b r' => z v' H' F' (a2.trans b) r') fun e dr' z => EX.step a2 e dr' z)
        · exact h1.elim
    refine PySem.W.callWith_K (h₀ := X.base) I1.ok.mod.kin hk (thn (ha.run pos pins s1 σ H1 _ I1 hspec) fun us s2 ⟨vs, H2, I2, r, q⟩ => ⟨I2.kIn, ?_⟩) he hpl
    exact run_fnS FF hr hb (tk σ) I2 r q
theorem m_fnv {x : Str} {p : Pos} {k n : Nat} {fn : List D → List Int → Res D} (G : FnG X k x n fn) (hg : Gl X x) (hdb : (x == ("__debug__" : Str)) = false) : PE X (.Name x p) (tM (gd X ad) N pk (fun _ dr => .ok (.fn x) dr)) := by
  obtain ⟨f, fd, ps, hm, _⟩ := G.ex
  exact m_const (x := .ref f) (d := .fn x) (pe_glob hg hm rfl hdb) (fun F => ⟨f, rfl, hm⟩) fun _ _ => rfl
/-- a star in a row -/
theorem a_scons {es : List Expr} {sp : Pos} {ea : Env → List Int → Res D} {el : Env → List Int → Res (List D)} (ha : PE X l (tM (gd X ad) N true ea)) (hl : PA X es (tA (gd X ad) N el)) (hs : starEach (.Starred l sp :: es) X.env = (true, eval l X.env) :: starEach es X.env) :
    PA X (.Starred l sp :: es) (tA (gd X ad) N (fun env dr => (ea env dr).bind fun d dr => (ofO (seqD d) dr).bind fun xs dr => (el env dr).bind fun ds dr => .ok (xs ++ ds) dr)) := PAw' (StX.pa_star ha hl hs) fun σ H Q ⟨env, F, dr, st, k⟩ => by
  refine ⟨env, F, dr, st, (post_bind k).imp (fun d dr1 h1 v H1 F1 a r1 => ?_) fun _ _ z => z⟩
  obtain ⟨xs, e1, k2⟩ := post_ofO (post_bind h1)
  have fin : ∀ vs, Reps (gd X ad) F1 xs vs → tA (gd X ad) N el σ H1 (fun ys H2 => Q (vs ++ ys) H2) := fun vs rv =>
    ⟨env, F1, dr1, st.step a, (post_bind k2).imp (fun ds dr2 h2 ws H2 F2 b r2 => h2 _ H2 F2 (a.trans b) (Reps.app (Reps.mono b.f _ _ rv) r2)) fun e dr' z => EX.step a e dr' z⟩
  cases d with
  | lst ds =>
    cases (show some ds = some xs from e1)
    obtain ⟨p, vs, rfl, h2, t, l2⟩ := rq_lst r1 a.s
    exact ⟨p, vs, rfl, .inr (.of h2), fin vs t⟩
  | tup ds =>
    cases (show some ds = some xs from e1)
    obtain ⟨p, vs, rfl, h2, t, l2⟩ := rq_tup r1 a.s
    exact ⟨p, vs, rfl, .inl (.of h2), fin vs t⟩
  | _ => cases e1
/-- a built-in by its name -/
theorem m_blt {f : BI} {p : Pos} {es : List Expr} {el : Env → List Int → Res (List D)} (hc : X.calm = true) (hu : X.A.units + 66 < cLine) (hg : Gl X (biNm f)) (hm : X.mg (biNm f) = none) (ha : PA X (l :: es) (tAp (gd X ad) N el))
    (he : starEach (l :: es) X.env = (false, eval l X.env) :: starEach es X.env) (hpl : (backTo pos (starEach es X.env)).any (·.1) = false) :
    PE X (.Call (.Name (biNm f) p) (l :: es) [] pos) (tM (gd X ad) N pk (fun env dr => (el env dr).bind fun ds dr => ofO (bltD f ds) dr)) := by
  have main : ∀ σ H Q, tM (gd X ad) N pk (fun env dr => (el env dr).bind fun ds dr => ofO (bltD f ds) dr) σ H Q → tCB (rBlt (gd X ad) f) (tAp (gd X ad) N el) σ H Q := fun σ H Q ⟨env, F, dr, st, k⟩ => by
    refine tAp_one st k fun ds dr1 vs H1 F1 st1 a r1 k1 => ?_
    obtain ⟨d, e1, k3⟩ := post_ofO k1
    exact ⟨F1, ds, d, st1.po.s, r1, e1, kontX_of k3 st1.po.self⟩
  have hn : biNm f ≠ "__name__" := by cases f <;> decide +kernel
  have hd : (biNm f == ("__debug__" : Str)) = false := by cases f <;> decide +kernel
  have hb := biV_ok f
  have hcall := call_blt (ad := ad) hc hu f
  cases f with
  | len => exact PEw' (pe_callB hcall hg hm hb ha hn hd he hpl) main
  | abs => exact PEw' (pe_callB hcall hg hm hb ha hn hd he hpl) main
  | max => exact PEw' (pe_callB hcall hg hm hb ha hn hd he hpl) main
  | min => exact PEw' (pe_callB hcall hg hm hb ha hn hd he hpl) main
  | sum => exact PEw' (pe_callB hcall hg hm hb ha hn hd he hpl) main
  | all => exact PEw' (pe_callB hcall hg hm hb ha hn hd he hpl) main
  | any => exact PEw' (pe_callB hcall hg hm hb ha hn hd he hpl) main
  | sorted => exact PEw' (pe_callB hcall hg hm hb ha hn hd he hpl) main
  | int => exact PEw' (pe_callTy hcall hg hm hb ha hn hd he hpl) main
  | list => exact PEw' (pe_callTy hcall hg hm hb ha hn hd he hpl) main
  | tuple => exact PEw' (pe_callTy hcall hg hm hb ha hn hd he hpl) main
  | str => exact PEw' (pe_callTy hcall hg hm hb ha hn hd he hpl) main
  | reversed => exact PEw' (pe_callTy hcall hg hm hb ha hn hd he hpl) main
  | set => exact PEw' (pe_callTy hcall hg hm hb ha hn hd he hpl) main
  | dict => exact PEw' (pe_callTy hcall hg hm hb ha hn hd he hpl) main
  | bool => exact PEw' (pe_callTy hcall hg hm hb ha hn hd he hpl) main
/-- the same, a new object -/
theorem m_bltF {f : BI} {p : Pos} {es : List Expr} {el : Env → List Int → Res (List D)} (hc : X.calm = true) (hu : X.A.units + 66 < cLine) (hg : Gl X (biNm f)) (hm : X.mg (biNm f) = none) (ha : PA X (l :: es) (tAp (gd X ad) N el))
    (he : starEach (l :: es) X.env = (false, eval l X.env) :: starEach es X.env) (hpl : (backTo pos (starEach es X.env)).any (·.1) = false) :
    PE X (.Call (.Name (biNm f) p) (l :: es) [] pos) (tMF (gd X ad) N (fun env dr => ((el env dr).bind fun ds dr => ofO (bltD f ds) dr).bind fun d dr => ofO (freshD d) dr)) := by
  have main : ∀ σ H Q, tMF (gd X ad) N (fun env dr => ((el env dr).bind fun ds dr => ofO (bltD f ds) dr).bind fun d dr => ofO (freshD d) dr) σ H Q → tCB (rBlt (gd X ad) f) (tAp (gd X ad) N el) σ H Q := fun σ H Q ⟨env, F, dr, st, k⟩ => by
    dsimp only at k
    rw [Res.bind_assoc] at k
    refine tAp_oneF st k fun ds dr1 vs H1 F1 st1 a r1 k1 => ?_
    obtain ⟨d, e1, k3⟩ := post_ofO (post_bind k1)
    exact ⟨F1, ds, d, st1.po.s, r1, e1, konF_of k3 st1.po.self⟩
  have hn : biNm f ≠ "__name__" := by cases f <;> decide +kernel
  have hd : (biNm f == ("__debug__" : Str)) = false := by cases f <;> decide +kernel
  have hb := biV_ok f
  have hcall := call_blt (ad := ad) hc hu f
  cases f with
  | len => exact PEw' (pe_callB hcall hg hm hb ha hn hd he hpl) main
  | abs => exact PEw' (pe_callB hcall hg hm hb ha hn hd he hpl) main
  | max => exact PEw' (pe_callB hcall hg hm hb ha hn hd he hpl) main
  | min => exact PEw' (pe_callB hcall hg hm hb ha hn hd he hpl) main
  | sum => exact PEw' (pe_callB hcall hg hm hb ha hn hd he hpl) main
  | all => exact PEw' (pe_callB hcall hg hm hb ha hn hd he hpl) main
  | any => exact PEw' (pe_callB hcall hg hm hb ha hn hd he hpl) main
  | sorted => exact PEw' (pe_callB hcall hg hm hb ha hn hd he hpl) main
  | int => exact PEw' (pe_callTy hcall hg hm hb ha hn hd he hpl) main
  | list => exact PEw' (pe_callTy hcall hg hm hb ha hn hd he hpl) main
  | tuple => exact PEw' (pe_callTy hcall hg hm hb ha hn hd he hpl) main
  | str => exact PEw' (pe_callTy hcall hg hm hb ha hn hd he hpl) main
  | reversed => exact PEw' (pe_callTy hcall hg hm hb ha hn hd he hpl) main
  | set => exact PEw' (pe_callTy hcall hg hm hb ha hn hd he hpl) main
  | dict => exact PEw' (pe_callTy hcall hg hm hb ha hn hd he hpl) main
  | bool => exact PEw' (pe_callTy hcall hg hm hb ha hn hd he hpl) main
theorem ty_boot (t : Ty) : bootBuiltins (tyNm t) = some (.type (tyNm t)) := by cases t <;> decide +kernel
theorem m_isi {t : Ty} {p p2 : Pos} {ea : Env → List Int → Res D} (hg : Gl X "isinstance") (hm : X.mg "isinstance" = none) (hg2 : Gl X (tyNm t)) (hm2 : X.mg (tyNm t) = none) (ha : PE X l (tM (gd X ad) N true ea))
    (he : starEach [l, .Name (tyNm t) p2] X.env = (false, eval l X.env) :: starEach [.Name (tyNm t) p2] X.env) :
    PE X (.Call (.Name "isinstance" p) [l, .Name (tyNm t) p2] [] pos) (tM (gd X ad) N pk (fun env dr => (ea env dr).bind fun x dr => ofO ((isiD t x).map .bl) dr)) := by
  have hb : PE X (.Name (tyNm t) p2) (tC (.ty (tyNm t))) := pe_bltn hg2 hm2 (ty_boot t) rfl (by cases t <;> decide +kernel) (by cases t <;> decide +kernel)
  refine PEw' (pe_callB (call_isi' (ad := ad) t) hg hm (by decide +kernel) (pa_cons ha (pa_cons hb pa_nil rfl) he) (by decide +kernel) (by decide +kernel) he rfl) fun σ H Q ⟨env, F, dr, st, k⟩ => ?_
  refine one st k fun x dr1 v H1 F1 st1 a r1 k1 => ?_
  obtain ⟨d, e1, k3⟩ := post_ofO k1
  cases q : isiD t x with
  | none => rw [q] at e1; cases e1
  | some c =>
    rw [q] at e1
    cases e1
    exact ⟨F1, x, v, c, st1.po.s, rfl, r1, q, k3 _ _ _ st1.po.self (.inl rfl)⟩
theorem m_ix {ea eb : Env → List Int → Res D} (hu : X.A.units + 1 < cLine) (ha : PE X l (tM (gd X ad) N true ea)) (hb : PE X r (tM (gd X ad) N true eb)) (hs : PlainIx r) :
    PE X (.Subscript l r pos) (tM (gd X ad) N pk (fun env dr => (ea env dr).bind fun x dr => (eb env dr).bind fun y dr => ofO (ixD x y) dr)) := PEw' (pe_ix (ix_any (ad := ad) hu) ha hb hs) fun σ H Q ⟨env, F, dr, st, k⟩ => by
  refine one st k fun x dr1 v H1 F1 st1 a r1 k1 => ?_
  refine one st1 k1 fun y dr2 w H2 F2 st2 b r2 k2 => ?_
  obtain ⟨d, e1, k3⟩ := post_ofO k2
  exact ⟨F2, x, y, d, st2.po.s, r1.step b, r2, e1, fun v' r' => k3 _ _ _ st2.po.self (.inl r')⟩
theorem o_none : PO X none (tO (gd X ad) N (fun _ dr => .ok none dr)) := POw' po_none fun σ H Q ⟨env, F, dr, st, k⟩ => k H F st.po.self
theorem o_some {ea : Env → List Int → Res D} (ha : PE X l (tM (gd X ad) N true ea)) : PO X (some l) (tO (gd X ad) N (fun env dr => (ea env dr).bind fun d dr => ofO (match d with
    | .int i => some (some i)
    | _ => none) dr)) := POw' (po_some ha) fun σ H Q ⟨env, F, dr, st, k⟩ => by
  refine ⟨env, F, dr, st, (post_bind k).imp (fun x dr1 h1 v H1 F1 a r1 => ?_) fun _ _ z => z⟩
  obtain ⟨o, e1, k3⟩ := post_ofO h1
  cases x <;> try (cases e1; done)
  cases e1
  cases rq_int r1
  exact ⟨_, rfl, k3 H1 F1 a⟩
theorem m_sl {lo hi : Option Expr} {p2 : Pos} {ea : Env → List Int → Res D} {el eh : Env → List Int → Res (Option Int)} (ha : PE X l (tM (gd X ad) N true ea)) (hl : PO X lo (tO (gd X ad) N el)) (hh : PO X hi (tO (gd X ad) N eh)) :
    PE X (.Subscript l (.Slice lo hi none p2) pos) (tM (gd X ad) N pk (fun env dr => (ea env dr).bind fun x dr => (el env dr).bind fun lo dr => (eh env dr).bind fun hi dr => ofO (slD x lo hi) dr)) := PEw' (pe_slice (sl_any (ad := ad)) ha hl hh) fun σ H Q ⟨env, F, dr, st, k⟩ => by
  refine one st k fun x dr1 v H1 F1 st1 a r1 k1 => ?_
  refine ⟨env, F1, dr1, st1, (post_bind k1).imp (fun lo dr2 h2 H2 F2 b => ?_) fun _ _ z => z⟩
  refine ⟨env, F2, dr2, st1.step b, (post_bind h2).imp (fun hi dr3 h3 H3 F3 c => ?_) fun e dr' z => EX.step b e dr' z⟩
  obtain ⟨d, e1, k3⟩ := post_ofO h3
  exact ⟨F3, x, d, c.s, (r1.step b).step c, e1, kontX_of k3 (b.trans c)⟩
theorem m_slF {lo hi : Option Expr} {p2 : Pos} {ea : Env → List Int → Res D} {el eh : Env → List Int → Res (Option Int)} (ha : PE X l (tM (gd X ad) N true ea)) (hl : PO X lo (tO (gd X ad) N el)) (hh : PO X hi (tO (gd X ad) N eh)) :
    PE X (.Subscript l (.Slice lo hi none p2) pos) (tMF (gd X ad) N (fun env dr => ((ea env dr).bind fun x dr => (el env dr).bind fun lo dr => (eh env dr).bind fun hi dr => ofO (slD x lo hi) dr).bind fun d dr => ofO (freshD d) dr)) := PEw' (pe_slice (sl_any (ad := ad)) ha hl hh) fun σ H Q ⟨env, F, dr, st, k⟩ => by
  dsimp only at k
  rw [Res.bind_assoc] at k
  refine oneF st k fun x dr1 v H1 F1 st1 a r1 k1 => ?_
  rw [Res.bind_assoc] at k1
  refine ⟨env, F1, dr1, st1, (post_bind k1).imp (fun lo dr2 h2 H2 F2 b => ?_) fun _ _ z => z⟩
  rw [Res.bind_assoc] at h2
  refine ⟨env, F2, dr2, st1.step b, (post_bind h2).imp (fun hi dr3 h3 H3 F3 c => ?_) fun e dr' z => EX.step b e dr' z⟩
  obtain ⟨d, e1, k3⟩ := post_ofO (post_bind h3)
  exact ⟨F3, x, d, c.s, (r1.step b).step c, e1, konF_of k3 (b.trans c)⟩
def miTy : MI → String
  | .join => "str" | .get => "dict" | .index => "list" | .count => "list" | .startswith => "str" | .endswith => "str" | .split => "str"
/-- the receiver's type: a dict may be locked -/
def tyW (K : PySem.W.Frag) (T : String) (x : V) (H : Hp) : Prop := tyV K T x H ∨ (T = "dict" ∧ ∃ p, x = .ref p ∧ IsD H p)
theorem tyW_is {pins : List (Addr × Obj)} {σ : L2.St} {H : Hp} {s : Shared} {T : String} {x : V} {v : Value} (I : Inv X pins σ H s) (r : RelV x v) (ty : tyW X.K T x H) :
    s.TypeIs v T ∧ ∀ a, v = .ref a → ∃ ob, s.heap.get? a = some ob ∧ ob.dict = none := by
  rcases ty with ty | ⟨rfl, p, rfl, d⟩
  · exact tyV_is I r ty
  · cases (show v = Value.ref p from r)
    obtain ⟨h1, h2, _⟩ := isD_at I d
    exact ⟨h1, h2⟩
def tBMW (K : PySem.W.Frag) (T : String) (r : V → List V → Hp → VK → Prop) (to : TE) (t : TA) : TE := fun σ H Q => to σ H fun x H1 => tyW K T x H1 ∧ t σ H1 fun xs H2 => r x xs H2 Q
theorem pe_bmW {o e : Expr} {es : List Expr} {to : TE} {t : TA} {name : Str} {apos cpos : Pos} {T id : String} {r : V → List V → Hp → VK → Prop} (pa : PySem.PlainAttrs T) (slot : Slot T name id) (hty : typeOf (.builtin id) = pure (.type "method_descriptor")) (hm : MtR X id r) (ho : PE X o to) (ha : PA X (e :: es) t)
    (hbase : attributeBase o name X.env (eval o X.env) = eval o X.env)
    (hfew : ((backTo cpos (starEach (e :: es) X.env)).all (fun x => !x.1) && (backToKw cpos (keywordEach [] X.env)).all (fun x => x.1.isSome)
      && decide ((e :: es).length + ([] : List Keyword).length + (if ([] : List Keyword).isEmpty then 0 else 1) < 30)) = true)
    (hline : (apos.endLine == cpos.line) = true) (hs : starEach (e :: es) X.env = (false, eval e X.env) :: starEach es X.env) (hplain : (backTo cpos (starEach es X.env)).any (·.1) = false) :
    PE X (.Call (.Attribute o name apos) (e :: es) [] cpos) (tBMW X.K T r to t) := by
  refine ⟨fun pins s σ H Q I h => ?_⟩
  refine wpAny_Call_method_late hbase hfew hline rfl (thn (ho.run pins s σ H _ I h) fun v s1 ⟨x, H1, I1, r1, ty, q1⟩ => ?_)
  obtain ⟨h1, h2⟩ := tyW_is I1 r1 ty
  refine ⟨T, id, pa, slot, hty, h1, h2, ?_⟩
  have hA := ha.run cpos pins s1 σ H1 _ I1 q1
  rw [hs] at hA ⊢
  refine Calls.callWith_builtin (by show (false || (backTo cpos (starEach es X.env)).any (·.1)) = false; rw [hplain] <;> rfl) (Calls.evalArgs_plain ?_)
  exact thn hA fun us s2 ⟨vs, H2, I2, r2, q2⟩ => hm pins s2 σ H2 x vs v us Q I2 r1 r2 q2
theorem tyV_str {F H : Hp} {d : D} {v : V} (h : RepQ (gd X ad) true F H d v) (e : ∃ z, d = .str z) : tyW X.K "str" v H := by
  obtain ⟨z, rfl⟩ := e
  cases rq_str h
  exact .inl rfl
theorem tyV_dict {F H : Hp} {d : D} {v : V} (h : RepQ (gd X ad) true F H d v) (s : Sub F H) (e : (∃ ks ds, d = .dicK ks ds) ∨ ∃ ks ds, d = .dicT ks ds) : tyW X.K "dict" v H := by
  rcases e with ⟨ks, ds, rfl⟩ | ⟨ks, ds, rfl⟩
  · obtain ⟨p, vs, rfl, h1, _⟩ := rq_dicK h s
    exact .inr ⟨rfl, p, rfl, .inl ⟨_, h1⟩⟩
  · obtain ⟨p, vs, rfl, h1, _⟩ := rq_dicT h s
    exact .inr ⟨rfl, p, rfl, .inr ⟨_, h1⟩⟩
theorem rcv_eq {m : MI} {x y : D} (h : rcv m x = some y) : y = x := by
  cases m <;> cases x <;> cases h <;> rfl
theorem rcv_ty {m : MI} {x y : D} {F H : Hp} {v : V} (h : rcv m x = some y) (r : RepQ (gd X ad) true F H x v) (s : Sub F H) : tyW X.K (miTy m) v H := by
  cases m <;> cases x <;> (try (cases h; done))
  · exact tyV_str r ⟨_, rfl⟩
  · exact tyV_dict r s (.inl ⟨_, _, rfl⟩)
  · exact tyV_dict r s (.inr ⟨_, _, rfl⟩)
def miOk : MI → Bool
  | .join => true
  | .get => true
  | _ => false
theorem m_meth {m : MI} {es : List Expr} {apos : Pos} {ea : Env → List Int → Res D} {el : Env → List Int → Res (List D)} (hk : miOk m = true) (hu : X.A.units + 1 < cLine)
    (ha : PE X l (tM (gd X ad) N true ea)) (hl : PA X (r :: es) (tA (gd X ad) N el)) (hbase : attributeBase l (miNm m) X.env (eval l X.env) = eval l X.env)
    (hfew : ((backTo pos (starEach (r :: es) X.env)).all (fun x => !x.1) && (backToKw pos (keywordEach [] X.env)).all (fun x => x.1.isSome) && decide ((r :: es).length + ([] : List Keyword).length + (if ([] : List Keyword).isEmpty then 0 else 1) < 30)) = true)
    (hline : (apos.endLine == pos.line) = true) (hs : starEach (r :: es) X.env = (false, eval r X.env) :: starEach es X.env) (hplain : (backTo pos (starEach es X.env)).any (·.1) = false) :
    PE X (.Call (.Attribute l (miNm m) apos) (r :: es) [] pos) (tM (gd X ad) N pk (fun env dr => (ea env dr).bind fun x dr => (ofO (rcv m x) dr).bind fun x dr => (el env dr).bind fun ds dr => ofO (methD m x ds) dr)) := by
  have main : ∀ σ H Q, tM (gd X ad) N pk (fun env dr => (ea env dr).bind fun x dr => (ofO (rcv m x) dr).bind fun x dr => (el env dr).bind fun ds dr => ofO (methD m x ds) dr) σ H Q →
      tBMW X.K (miTy m) (rMeth (gd X ad) m) (tM (gd X ad) N true ea) (tA (gd X ad) N el) σ H Q := fun σ H Q ⟨env, F, dr, st, k⟩ => by
    refine one st k fun x dr1 v H1 F1 st1 a r1 k1 => ?_
    obtain ⟨y, e1, k2⟩ := post_ofO (post_bind k1)
    have e2 := rcv_eq e1
    subst e2
    refine ⟨rcv_ty e1 r1 st1.po.s, ?_⟩
    refine tA_one st1 k2 fun ds dr2 vs H2 F2 st2 b r2 k3 => ?_
    obtain ⟨d, e3, k4⟩ := post_ofO k3
    exact ⟨F2, y, ds, d, st2.po.s, r1.step b, r2, e3, kont_of k4 st2.po.self⟩
  cases m with
  | join => exact PEw' (pe_bmW PySem.F.plainAttrs_str PySem.F.slot_str_join PySem.F.type_str_join mt_join' ha hl hbase hfew hline hs hplain) main
  | get => exact PEw' (pe_bmW PySem.F.plainAttrs_dict PySem.F.slot_dict_get PySem.F.type_dict_get (mt_get' hu) ha hl hbase hfew hline hs hplain) main
  | _ => cases hk
/-- the row of draws: its length, its last one taken -/
theorem m_dlen {i : Nat} {p p2 : Pos} {x : Str} (hg : Gl X "len") (hm : X.mg "len" = none) (h : PE X (.Name x p2) (tVar i)) : PE X (.Call (.Name "len" p) [.Name x p2] [] pos) (tM (gd X ad) N pk (fun env dr => match get env i with
    | .val .drw => .ok (.int dr.length) dr
    | _ => .bad)) := PEw' (pe_callB call_len_seq (by exact hg) hm PySem.boot_len (pa_cons h pa_nil rfl) (by decide) (by decide) rfl rfl) fun σ H Q ⟨env, F, dr, st, k⟩ => by
  have sl := st.slot i
  dsimp only at k
  cases q : get env i with
  | no => rw [q] at k; exact k.elim
  | own d => rw [q] at k; exact k.elim
  | val d =>
    rw [q] at k sl
    cases d <;> try (exact (False.elim k); done)
    obtain ⟨v, e3, r⟩ := sl
    obtain ⟨a, ea, rfl⟩ := (show ∃ a, ad = some a ∧ v = .ref a from r)
    refine ⟨_, e3, a, _, rfl, .inl (.of (st.po.dr a ea)), ?_⟩
    rw [List.length_map, List.length_reverse]
    exact k _ _ _ st.po.self (.inl rfl)
theorem m_dpop {i : Nat} {p apos : Pos} {x : Str} (h : PE X (.Name x p) (tVar i)) (hline : (apos.endLine == pos.line) = true) : PE X (.Call (.Attribute (.Name x p) "pop" apos) [] [] pos) (tM (gd X ad) N pk (fun env dr => match get env i, dr with
    | .val .drw, x :: r => .ok (.int x) r
    | _, _ => .bad)) := PEw' (pe_bm0 PySem.F.plainAttrs_list PySem.F.slot_list_pop PySem.F.type_list_pop mt_pop h rfl hline) fun σ H Q ⟨env, F, dr, st, k⟩ => by
  have sl := st.slot i
  dsimp only at k
  cases q : get env i with
  | no => rw [q] at k; exact k.elim
  | own d => rw [q] at k; exact k.elim
  | val d =>
    rw [q] at k sl
    cases d <;> try (exact (False.elim k); done)
    cases dr with
    | nil => exact k.elim
    | cons x r =>
      obtain ⟨v, e3, rr⟩ := sl
      obtain ⟨a, ea, rfl⟩ := (show ∃ a, ad = some a ∧ v = .ref a from rr)
      have hd := st.po.dr a ea
      refine ⟨_, e3, .inl ⟨rfl, _, .of hd⟩, a, _, .int x, rfl, rfl, hd, ?_, ?_⟩
      · rw [List.length_map, List.length_reverse, List.reverse_cons, List.map_append]
        simp
      · rw [List.reverse_cons, List.map_append, List.map_singleton, List.dropLast_concat]
        exact k _ _ _ (st.po.self.draw ea) (.inl rfl)
/-! ### backwards -/
theorem op_revS {e : Expr} {te : TE} {k : Nat} {p1 p2 p3 pos : Pos} (he : PE X e te) : PE X (.Subscript e (.Slice none none (some (.UnaryOp .USub (.Constant (.int 1) k p1) p2)) p3) pos)
    (fun σ H Q => te σ H fun x H1 => (∃ z, x = .str z ∧ z.length ≤ sizeLine ∧ Q (.str ⟨z.cps.toList.reverse.toArray⟩) H1) ∨ (∃ a xs, x = .ref a ∧ H1 a = some (.lst xs) ∧ ∀ p, H1 p = none → Q (.ref p) (upd H1 p (.lst xs.reverse)))) := by
  refine ⟨fun pins s σ H Q I h => ?_⟩
  refine Subscript_ (thn (he.run pins s σ H _ I h) fun v s1 ⟨x, H1, I1, r1, q1⟩ => ?_)
  have step : PO X (some (.UnaryOp .USub (.Constant (.int 1) k p1) p2)) (tPart (tUn (rU fun i => .int (-i)) (tC (.int 1)))) := po_some (pe_un un_neg pe_int)
  refine wpAny_Slice (thn (po_none.run pins s1 σ H1 (fun o H2 => o = none ∧ H2 = H1) I1 ⟨rfl, rfl⟩) fun vl s2 ⟨o1, H2, I2, pl, el, e2⟩ => ?_)
  subst el e2
  refine thn (po_none.run pins s2 σ H2 (fun o H3 => o = none ∧ H3 = H2) I2 ⟨rfl, rfl⟩) fun vu s3 ⟨o2, H3, I3, pu, eu, e3⟩ => ?_
  subst eu e3
  refine thn (step.run pins s3 σ H3 (fun o H4 => o = some (-1) ∧ H4 = H3) I3 ⟨1, rfl, -1, rfl, rfl, rfl⟩) fun vs s4 ⟨o3, H4, I4, ps, eo, e4⟩ => ?_
  subst eo e4
  have I5 : Inv X pins σ H4 { s4 with heap := s4.heap.push { cls := .type "slice", data := .fields #[vl, vu, vs] } } := I4.kept (t' := s4.toks) fun b ob q => Heap.get?_push_of_some _ q
  rcases q1 with ⟨z, rfl, hz, q⟩ | ⟨a, xs, rfl, hx, q⟩
  · obtain ⟨t, rfl⟩ := r1
    obtain ⟨l, rfl, el⟩ := IsPart.raw pl
    obtain ⟨u, rfl, eu⟩ := IsPart.raw pu
    obtain ⟨st, rfl, es⟩ := IsPart.raw ps
    cases l with
    | some _ => cases el
    | none =>
      cases u with
      | some _ => cases eu
      | none =>
        show wpAny (model X.prog X.w) X.A (subscriptTail e (.Slice none none (some (.UnaryOp .USub (.Constant (.int 1) k p1) p2)) p3) (.str z t) (.ref s4.heap.objs.size)) (EP X pins σ Q) X.xe { s4 with heap := s4.heap.push { cls := .type "slice", data := .fields #[partValue none, partValue none, partValue st] } }
        refine tail_any (ops := [.str z t, .ref s4.heap.objs.size]) (typeIs_str _ _ _) PySem.F.slot_str_getitem.lookup ?_ (by with_unfolding_all rfl)
        refine wpAny_getItem_str_slice (l := none) (u := none) (st := st) (Heap.IsSliceOf.new _ _ _ _) (by rw [es]; decide) ?_
        have e5 : (slicePicked z none none st) = (List.range z.length).map fun k => z.length - 1 - k := by
          unfold slicePicked
          rw [es]
          exact picked_rev z.length
        have e6 : ((slicePicked z none none st).filterMap (z.cps[·]?)) = z.cps.toList.reverse := by
          rw [e5]
          refine List.ext_getElem? fun j => ?_
          rw [filterMap_get, List.map_map, List.getElem?_map]
          · by_cases hj : j < z.length
            · rw [List.getElem?_range hj, List.getElem?_reverse (by rw [Array.length_toList]; exact hj)]
              have hj2 : z.length - 1 - j < z.cps.toList.length := by rw [Array.length_toList]; show _ < z.length; omega
              rw [show z.cps.toList.length - 1 - j = z.length - 1 - j by rw [Array.length_toList]; rfl, List.getElem?_eq_getElem hj2]
              show some (z.cps.getD (z.length - 1 - j) 0) = _
              simp [Array.getD, show z.length - 1 - j < z.cps.size from by rw [Array.length_toList] at hj2; exact hj2]
            · rw [List.getElem?_eq_none (by rw [List.length_range]; omega), List.getElem?_eq_none (by rw [List.length_reverse, Array.length_toList]; show z.length ≤ j; omega)]
              rfl
          · intro i hi
            obtain ⟨k2, hk, rfl⟩ := List.mem_map.mp hi
            have hk' : k2 < z.length := List.mem_range.mp hk
            show z.length - 1 - k2 < z.length
            omega
        unfold sliceMade
        rw [es]
        rw [if_neg (by simp)]
        rw [e6]
        refine ⟨?_, ⟨.str ⟨z.cps.toList.reverse.toArray⟩, H4, I5.tok _, ⟨_, rfl⟩, q⟩⟩
        show (z.cps.toList.reverse.toArray).size ≤ sizeLine
        rw [List.size_toArray, List.length_reverse, Array.length_toList]
        exact hz
  · cases r1
    obtain ⟨its, rr, ht, hz⟩ := I5.list (.of hx)
    have hl := rr.length
    show wpAny (model X.prog X.w) X.A (subscriptTail e (.Slice none none (some (.UnaryOp .USub (.Constant (.int 1) k p1) p2)) p3) (.ref a) (.ref s4.heap.objs.size)) (EP X pins σ Q) X.xe
      { s4 with heap := s4.heap.push { cls := .type "slice", data := .fields #[vl, vu, vs] } }
    refine tail_any (ops := [.ref a, .ref s4.heap.objs.size]) ht.isList.typeIs PySem.slot_list_getitem.lookup
      (wpAny_getItem_list_slice ht.isList (Heap.IsSliceOf.new _ vl vu vs) pl pu ps (by decide) ?_ (by rw [List.size_toArray]; omega)) (by with_unfolding_all rfl)
    rw [PySem.W.krv_pick]
    exact ⟨.ref _, _, I5.laid (t' := s4.toks) (o := .lst xs.reverse) (fun _ _ z => Heap.get?_push_of_some _ z) (Nat.le_refl _) ⟨by rw [List.length_reverse]; exact hz, _, 0, rr.reverse, Heap.get?_push_size _ rfl⟩, rfl, q _ (I5.hok.fresh (Nat.le_refl _))⟩
def revOk : D → Option D
  | .lst ds => some (.lst ds.reverse)
  | .str s => grd (szOk s.length) (.str ⟨s.cps.toList.reverse.toArray⟩)
  | _ => none
theorem m_rev {k : Nat} {p1 p2 p3 : Pos} {ea : Env → List Int → Res D} (ha : PE X l (tM (gd X ad) N true ea)) : PE X (.Subscript l (.Slice none none (some (.UnaryOp .USub (.Constant (.int 1) k p1) p2)) p3) pos)
    (tM (gd X ad) N pk (fun env dr => (ea env dr).bind fun x dr => ofO (revD x) dr)) := PEw' (op_revS ha) fun σ H Q ⟨env, F, dr, st, k⟩ => by
  refine one st k fun x dr1 v H1 F1 st1 a r1 k1 => ?_
  obtain ⟨d, e1, k3⟩ := post_ofO k1
  cases x with
  | str z =>
    obtain ⟨h1, rfl⟩ := grd_some (show grd (szOk z.length) (D.str ⟨z.cps.toList.reverse.toArray⟩) = some d from e1)
    cases rq_str r1
    exact .inl ⟨z, rfl, szOk_le h1, (kont_of k3 st1.po.self).1 _ rfl⟩
  | lst ds =>
    cases (show some (D.lst ds.reverse) = some d from e1)
    obtain ⟨p, vs, rfl, h1, t, l1⟩ := rq_lst r1 st1.po.s
    exact .inr ⟨p, vs, rfl, h1, fun q hq => (show KontX (gd X ad) F1 H1 _ Q from kontX_of k3 st1.po.self) _ _ hq (own_lst t.rev (by rw [List.length_reverse]; exact l1))⟩
  | _ => cases e1

/-! ### walks -/
def Cond (g : Gd) (pk : Bool) (F H F1 H1 : Hp) : Prop := Sub F F1 ∧ Sub F1 H1 ∧ (pk = true → ∀ b o, H b = some o → some b ≠ g.ad → H1 b = some o)
/-- J walks just these trees, as long as what is known stays -/
structure ItD (g : Gd) (pk : Bool) (F0 H0 : Hp) (J : It) (ds : List D) : Prop where
  go : ∀ i F1 H1, i < ds.length → Cond g pk F0 H0 F1 H1 → J.go i H1
  stop : ∀ F1 H1, Cond g pk F0 H0 F1 H1 → J.stop ds.length H1
  yld : ∀ i F1 H1 x H2, i < ds.length → Cond g pk F0 H0 F1 H1 → J.yld i H1 x H2 → ∃ d, ds[i]? = some d ∧ ((H2 = H1 ∧ Rep g F1 d x) ∨ ∃ T o, H1 T = none ∧ H2 = upd H1 T o ∧ Rep g (upd F1 T o) d x)
def tI (g : Gd) (N : En) (pk : Bool) (ev : Env → List Int → Res (List D)) : TI := fun σ H R => ∃ env F dr, StR g N.F0 N.H0 σ env F H dr ∧
  (ev env dr).post (fun ds dr' => ∀ J H' F', Post g F H F' H' dr' → ItD g pk F' H' J ds → ds.length ≤ sizeLine → R J H') (EX g N.W F H σ)
theorem PIw' {tg it : Expr} {t t' : TI} (h : PI X tg it t) (i : ∀ σ H R, t' σ H R → t σ H R) : PI X tg it t' := ⟨fun pins s σ H R I q => h.run pins s σ H R I (i _ _ _ q)⟩
/-- a value of F, or an own one, stands while the condition stands -/
theorem cond_lst {g : Gd} {F H F1 H1 : Hp} {ds : List D} {v : V} (h : RepQ g pk F H (.lst ds) v) (s : Sub F H) : ∃ p vs, v = .ref p ∧ H p = some (.lst vs) ∧ Reps g F ds vs ∧ ds.length ≤ sizeLine ∧ ∀ F1 H1, Cond g pk F H F1 H1 → H1 p = some (.lst vs) ∧ Reps g F1 ds vs := by
  rcases h with ⟨l, a, vs, rfl, k, r⟩ | ⟨e, p, rfl, n, l, vs, k, r⟩
  · exact ⟨a, vs, rfl, s _ _ k, r, l, fun F1 H1 c => ⟨c.2.1 _ _ (c.1 _ _ k), Reps.mono c.1 _ _ r⟩⟩
  · exact ⟨p, vs, rfl, k, r, l, fun F1 H1 c => ⟨c.2.2 e _ _ k n, Reps.mono c.1 _ _ r⟩⟩
theorem cond_tup {g : Gd} {F H : Hp} {ds : List D} {v : V} (h : RepQ g pk F H (.tup ds) v) (s : Sub F H) : ∃ p vs, v = .ref p ∧ H p = some (.tup vs) ∧ Reps g F ds vs ∧ ds.length ≤ sizeLine ∧ ∀ F1 H1, Cond g pk F H F1 H1 → H1 p = some (.tup vs) ∧ Reps g F1 ds vs := by
  rcases h with ⟨l, a, vs, rfl, k, r⟩ | ⟨e, p, rfl, n, z⟩
  · exact ⟨a, vs, rfl, s _ _ k, r, l, fun F1 H1 c => ⟨c.2.1 _ _ (c.1 _ _ k), Reps.mono c.1 _ _ r⟩⟩
  · exact z.elim
theorem itd_list {g : Gd} {F H : Hp} {ds : List D} {p : Addr} {vs : List V} (c : ∀ F1 H1, Cond g pk F H F1 H1 → H1 p = some (.lst vs) ∧ Reps g F1 ds vs) : ItD g pk F H (Itl g.K p) ds where
  go := fun i F1 H1 hi hc => by
    obtain ⟨h1, r⟩ := c F1 H1 hc
    have : i < vs.length := by rw [r.len]; exact hi
    exact ⟨vs, vs[i], .of h1, List.getElem?_eq_getElem this⟩
  stop := fun F1 H1 hc => by
    obtain ⟨h1, r⟩ := c F1 H1 hc
    exact ⟨vs, .of h1, Nat.le_of_eq r.len⟩
  yld := fun i F1 H1 x H2 hi hc y => by
    obtain ⟨h1, r⟩ := c F1 H1 hc
    obtain ⟨rfl, y⟩ := y
    obtain ⟨d, e, r2⟩ := r.get2 (y vs (.of h1))
    exact ⟨d, e, .inl ⟨rfl, r2⟩⟩
theorem itd_tup {g : Gd} {F H : Hp} {ds : List D} {p : Addr} {vs : List V} (c : ∀ F1 H1, Cond g pk F H F1 H1 → H1 p = some (.tup vs) ∧ Reps g F1 ds vs) : ItD g pk F H (Itt g.K p) ds where
  go := fun i F1 H1 hi hc => by
    obtain ⟨h1, r⟩ := c F1 H1 hc
    have : i < vs.length := by rw [r.len]; exact hi
    exact ⟨vs, vs[i], .of h1, List.getElem?_eq_getElem this⟩
  stop := fun F1 H1 hc => by
    obtain ⟨h1, r⟩ := c F1 H1 hc
    exact ⟨vs, .of h1, Nat.le_of_eq r.len⟩
  yld := fun i F1 H1 x H2 hi hc y => by
    obtain ⟨h1, r⟩ := c F1 H1 hc
    obtain ⟨rfl, y⟩ := y
    obtain ⟨d, e, r2⟩ := r.get2 (y vs (.of h1))
    exact ⟨d, e, .inl ⟨rfl, r2⟩⟩
theorem itd_str {g : Gd} {F H : Hp} {z : Str} : ItD g pk F H (Its z) (z.cps.toList.map fun c => .str ⟨#[c]⟩) where
  go := fun i F1 H1 hi hc => by
    rw [List.length_map, Array.length_toList] at hi
    exact hi
  stop := fun F1 H1 hc => by
    rw [List.length_map, Array.length_toList]
    exact Nat.le_refl _
  yld := fun i F1 H1 x H2 hi hc y => by
    obtain ⟨rfl, c, e, rfl⟩ := y
    refine ⟨.str ⟨#[c]⟩, ?_, .inl ⟨rfl, rfl⟩⟩
    rw [List.getElem?_map, Array.getElem?_toList, e]
    rfl
theorem rngL_get {i : Int} {n : Nat} {c : Int} {k : Nat} (h : k < n) : (rngL i n c)[k]? = some (.int (i + (k : Nat) * c)) := by
  unfold rngL
  rw [List.getElem?_map, List.getElem?_range h]
  rfl
theorem rngL_len (i : Int) (n : Nat) (c : Int) : (rngL i n c).length = n := by
  unfold rngL
  rw [List.length_map, List.length_range]
theorem itd_rng {g : Gd} {F H : Hp} {lo : Int} {n : Nat} : ItD g pk F H (Itr lo n) (rngL lo n 1) where
  go := fun i F1 H1 hi hc => by rw [rngL_len] at hi; exact hi
  stop := fun F1 H1 hc => by rw [rngL_len]; exact Nat.le_refl _
  yld := fun i F1 H1 x H2 hi hc y => by
    rw [rngL_len] at hi
    obtain ⟨rfl, rfl⟩ := y
    refine ⟨_, rngL_get hi, .inl ⟨rfl, ?_⟩⟩
    rw [Int.mul_one]
    rfl
theorem itd_rngC {g : Gd} {F H : Hp} {lo c : Int} {n : Nat} : ItD g pk F H (Itc lo c n) (rngL lo n c) where
  go := fun i F1 H1 hi hc => by rw [rngL_len] at hi; exact hi
  stop := fun F1 H1 hc => by rw [rngL_len]; exact Nat.le_refl _
  yld := fun i F1 H1 x H2 hi hc y => by
    rw [rngL_len] at hi
    obtain ⟨rfl, rfl⟩ := y
    exact ⟨_, rngL_get hi, .inl ⟨rfl, rfl⟩⟩
theorem itd_ilst {g : Gd} {F H : Hp} {is : List Int} {p : Addr} (h : SqL g.K F p (is.map V.int)) : ItD g pk F H (Itl g.K p) (is.map .int) where
  go := fun i F1 H1 hi hc => ⟨_, _, sqL_sub (hc.1.trans hc.2.1) h, List.getElem?_eq_getElem (by rw [List.length_map] at hi ⊢; exact hi)⟩
  stop := fun F1 H1 hc => ⟨_, sqL_sub (hc.1.trans hc.2.1) h, by rw [List.length_map, List.length_map]; exact Nat.le_refl _⟩
  yld := fun i F1 H1 x H2 hi hc y => by
    obtain ⟨rfl, y⟩ := y
    have e := y _ (sqL_sub (hc.1.trans hc.2.1) h)
    rw [List.length_map] at hi
    rw [List.getElem?_map, List.getElem?_eq_getElem hi] at e
    have e : some (V.int is[i]) = some x := e
    cases e
    exact ⟨.int is[i], by rw [List.getElem?_map, List.getElem?_eq_getElem hi]; rfl, .inl ⟨rfl, rfl⟩⟩
/-- a list, a tuple, a text walked -/
theorem i_seq {tg it : Expr} {ea : Env → List Int → Res D} (ha : PE X it (tM (gd X ad) N pk ea)) : PI X tg it (tI (gd X ad) N pk (fun env dr => (ea env dr).bind fun d dr => ofO (iterD d) dr)) := by
  refine ⟨fun pins s σ H R I ⟨env, F, dr, st, k⟩ => ?_⟩
  have hq : tM (gd X ad) N pk ea σ H (fun v H1 => ∃ F1 d dr1 xs, Post (gd X ad) F H F1 H1 dr1 ∧ RepQ (gd X ad) pk F1 H1 d v ∧ iterD d = some xs ∧ ∀ J H' F', Post (gd X ad) F H F' H' dr1 → ItD (gd X ad) pk F' H' J xs → xs.length ≤ sizeLine → R J H') := by
    refine ⟨env, F, dr, st, (post_bind k).imp (fun d dr1 h1 v H1 F1 a r1 => ?_) fun _ _ z => z⟩
    obtain ⟨xs, e1, k3⟩ := post_ofO h1
    exact ⟨F1, d, dr1, xs, a, r1, e1, k3⟩
  refine thn (ha.run pins s σ H _ I hq) fun v s1 ⟨x, H1, I1, rx, F1, d, dr1, xs, a, r1, e1, k3⟩ => ?_
  have one_it : ∀ b ∈ [s1.heap.objs.size], FpOk X pins H1 b := fun b hb => by
    cases List.mem_singleton.mp hb
    exact I1.fpOk (Nat.le_refl _) (I1.hok.fresh (Nat.le_refl _))
  cases d with
  | lst ds =>
    cases (show some ds = some xs from e1)
    obtain ⟨p, vs, rfl, h1, t, l1, c⟩ := cond_lst (F1 := F1) (H1 := H1) r1 a.s
    cases rx
    obtain ⟨its, rv, pl, hz⟩ := I1.list (.of h1)
    exact wpAny_pyIter_list pl.isList ⟨s1.heap.objs.size, [s1.heap.objs.size], _, _, H1, rfl, I1.kept (t' := s1.toks) fun _ _ z => Heap.get?_push_of_some _ z, turn_list p _, ⟨_, Heap.get?_push_size _ rfl, rfl, rfl⟩, one_it, k3 _ H1 F1 a (itd_list c) l1⟩
  | tup ds =>
    cases (show some ds = some xs from e1)
    obtain ⟨p, vs, rfl, h1, t, l1, c⟩ := cond_tup r1 a.s
    cases rx
    obtain ⟨its, rv, pl, hz⟩ := I1.tuple (.of h1)
    exact wpAny_pyIter_tuple (show s1.heap.IsTuple p its.toArray from pl) ⟨s1.heap.objs.size, [s1.heap.objs.size], _, _, H1, rfl, I1.kept (t' := s1.toks) fun _ _ z => Heap.get?_push_of_some _ z, turn_tuple p _, ⟨_, Heap.get?_push_size _ rfl, rfl, rfl⟩, one_it, k3 _ H1 F1 a (itd_tup c) l1⟩
  | str z =>
    obtain ⟨h1, rfl⟩ := grd_some (show grd (szOk z.length) (z.cps.toList.map fun c => D.str ⟨#[c]⟩) = some xs from e1)
    cases rq_str r1
    obtain ⟨t, rfl⟩ := rx
    have fin : R (Its z) H1 := k3 _ H1 F1 a itd_str (by rw [List.length_map, Array.length_toList]; exact szOk_le h1)
    cases hb : z.cps.all (· < 128) with
    | false => exact wpAny_pyIter_wide hb (pi_one (tk := s1.toks) I1 _ (turn_str _ z t "str_iterator" (.inr rfl)) ⟨_, Heap.get?_push_size _ rfl, rfl, rfl⟩ fin)
    | true => exact wpAny_pyIter_ascii hb (pi_one (tk := s1.toks) I1 _ (turn_str _ z t "str_ascii_iterator" (.inl rfl)) ⟨_, Heap.get?_push_size _ rfl, rfl, rfl⟩ fin)
  | ilst is =>
    cases (show some (is.map D.int) = some xs from e1)
    obtain ⟨l1, p, rfl, h1⟩ : is.length ≤ sizeLine ∧ ∃ a, x = .ref a ∧ SqL X.K F1 a (is.map V.int) := by
      rcases r1 with h | ⟨_, _, _, _, z⟩
      · exact h
      · exact z.elim
    cases rx
    obtain ⟨its, rv, pl, hz⟩ := I1.list (sqL_sub a.s h1)
    exact wpAny_pyIter_list pl.isList ⟨s1.heap.objs.size, [s1.heap.objs.size], _, _, H1, rfl, I1.kept (t' := s1.toks) fun _ _ z => Heap.get?_push_of_some _ z, turn_list p _, ⟨_, Heap.get?_push_size _ rfl, rfl, rfl⟩, one_it, k3 _ H1 F1 a (itd_ilst h1) (by rw [List.length_map]; exact l1)⟩
  | _ => cases e1
theorem rangeSize_nonneg (i j c : Int) : 0 ≤ Builtin.Range.rangeSize i j c := by
  unfold Builtin.Range.rangeSize
  split
  · split
    · have : 0 ≤ (j - i - 1) / c := Int.ediv_nonneg (by omega) (by omega)
      omega
    · exact Int.le_refl _
  · split
    · have : 0 ≤ (i - j - 1) / (-c) := Int.ediv_nonneg (by omega) (by omega)
      omega
    · exact Int.le_refl _
/-- a thing to be walked, in zip or enumerate -/
theorem src_of {g : Gd} {F H : Hp} {d : D} {v : V} {xs : List D} (h : RepQ g pk F H d v) (s : Sub F H) (e : iterD d = some xs) : ∃ (c : Src) (vs : List V), v = c.v ∧ xs.length ≤ sizeLine ∧ ∀ F1 H1, Cond g pk F H F1 H1 → c.has g.K H1 vs ∧ Reps g F1 xs vs := by
  cases d with
  | lst ds =>
    cases (show some ds = some xs from e)
    obtain ⟨p, vs, rfl, h1, t, l1, c⟩ := cond_lst (F1 := F) (H1 := H) h s
    exact ⟨.L p, vs, rfl, l1, fun F1 H1 hc => ⟨.of (c F1 H1 hc).1, (c F1 H1 hc).2⟩⟩
  | tup ds =>
    cases (show some ds = some xs from e)
    obtain ⟨p, vs, rfl, h1, t, l1, c⟩ := cond_tup h s
    exact ⟨.T p, vs, rfl, l1, fun F1 H1 hc => ⟨.of (c F1 H1 hc).1, (c F1 H1 hc).2⟩⟩
  | str z =>
    obtain ⟨h1, rfl⟩ := grd_some (show grd (szOk z.length) (z.cps.toList.map fun c => D.str ⟨#[c]⟩) = some xs from e)
    have hv : v = .str z := by
      rcases h with h | ⟨_, _, _, _, z⟩
      · exact h
      · exact z.elim
    refine ⟨.S z, _, hv, by rw [List.length_map, Array.length_toList]; exact szOk_le h1, fun F1 H1 hc => ⟨rfl, ?_⟩⟩
    generalize z.cps.toList = cs
    induction cs with
    | nil => rfl
    | cons c cs ih => exact Reps.cons rfl ih
  | ilst is =>
    cases (show some (is.map D.int) = some xs from e)
    obtain ⟨l1, p, rfl, h1⟩ : is.length ≤ sizeLine ∧ ∃ a, v = .ref a ∧ SqL g.K F a (is.map V.int) := by
      rcases h with h | ⟨_, _, _, _, z⟩
      · exact h
      · exact z.elim
    exact ⟨.L p, _, rfl, by rw [List.length_map]; exact l1, fun F1 H1 hc => ⟨sqL_sub hc.2.1 (sqL_sub hc.1 h1), repInts is⟩⟩
  | _ => cases e
theorem enumL_len : ∀ (k : Nat) (xs : List D), (enumL k xs).length = xs.length
  | _, [] => rfl
  | k, x :: xs => by
    show (enumL (k + 1) xs).length + 1 = _
    rw [enumL_len (k + 1) xs]
    rfl
theorem enumL_get : ∀ (k : Nat) (xs : List D) (i : Nat), (enumL k xs)[i]? = (xs[i]?).map fun x => D.tup [.int ((k + i : Nat) : Int), x]
  | _, [], i => by simp [enumL]
  | k, x :: xs, 0 => by simp [enumL]
  | k, x :: xs, i + 1 => by
    show (enumL (k + 1) xs)[i]? = _
    rw [enumL_get (k + 1) xs i]
    simp only [List.getElem?_cons_succ]
    congr 1
    funext y
    rw [show k + 1 + i = k + (i + 1) by omega]
theorem zipL_len : ∀ (xs ys : List D), (zipL xs ys).length = min xs.length ys.length
  | [], ys => by simp [zipL]
  | x :: xs, [] => by simp [zipL]
  | x :: xs, y :: ys => by
    show (zipL xs ys).length + 1 = _
    rw [zipL_len xs ys]
    simp only [List.length_cons]
    omega
theorem zipL_get : ∀ (xs ys : List D) (i : Nat) (x y : D), xs[i]? = some x → ys[i]? = some y → (zipL xs ys)[i]? = some (.tup [x, y])
  | [], ys, i, x, y, h, _ => by simp at h
  | x :: xs, [], i, _, _, _, h => by simp at h
  | x :: xs, y :: ys, 0, x', y', h, k => by
    cases (show some x = some x' by simpa using h)
    cases (show some y = some y' by simpa using k)
    rfl
  | x :: xs, y :: ys, i + 1, x', y', h, k => zipL_get xs ys i x' y' (by simpa using h) (by simpa using k)
theorem two_le : 2 ≤ sizeLine := by rw [sizeLine_eq]; decide
theorem itd_enum {g : Gd} {F H : Hp} {xs : List D} {c : Src} {vs : List V} (h : ∀ F1 H1, Cond g pk F H F1 H1 → c.has g.K H1 vs ∧ Reps g F1 xs vs) : ItD g pk F H (IteG g.K c) (enumL 0 xs) where
  go := fun i F1 H1 hi hc => by
    obtain ⟨h1, r⟩ := h F1 H1 hc
    rw [enumL_len] at hi
    exact ⟨vs, h1, by rw [r.len]; exact hi⟩
  stop := fun F1 H1 hc => by
    obtain ⟨h1, r⟩ := h F1 H1 hc
    exact ⟨vs, h1, by rw [enumL_len, r.len]⟩
  yld := fun i F1 H1 x H2 hi hc y => by
    obtain ⟨h1, r⟩ := h F1 H1 hc
    obtain ⟨T, w, rfl, hT, rfl, hy⟩ := y
    obtain ⟨d, e, r2⟩ := r.get2 (hy vs h1)
    refine ⟨.tup [.int ((0 + i : Nat) : Int), d], by rw [enumL_get, e]; rfl, .inr ⟨T, _, hT, rfl, ?_⟩⟩
    rw [Nat.zero_add]
    exact rep_tup (hc.2.1.free hT) (Reps.cons rfl (Reps.cons r2 Reps.nil)) two_le
theorem itd_zip {g : Gd} {F H : Hp} {xs ys : List D} {c c2 : Src} {vs ws : List V} (h : ∀ F1 H1, Cond g pk F H F1 H1 → c.has g.K H1 vs ∧ Reps g F1 xs vs) (k : ∀ F1 H1, Cond g pk F H F1 H1 → c2.has g.K H1 ws ∧ Reps g F1 ys ws) : ItD g pk F H (ItzG g.K c c2) (zipL xs ys) where
  go := fun i F1 H1 hi hc => by
    obtain ⟨h1, r⟩ := h F1 H1 hc
    obtain ⟨k1, q⟩ := k F1 H1 hc
    rw [zipL_len] at hi
    exact ⟨vs, ws, h1, k1, by rw [r.len]; omega, by rw [q.len]; omega⟩
  stop := fun F1 H1 hc => by
    obtain ⟨h1, r⟩ := h F1 H1 hc
    obtain ⟨k1, q⟩ := k F1 H1 hc
    rw [zipL_len]
    exact ⟨vs, ws, h1, k1, by rw [r.len]; omega, by rw [q.len]; omega, by rw [r.len, q.len]; omega⟩
  yld := fun i F1 H1 x H2 hi hc y => by
    obtain ⟨h1, r⟩ := h F1 H1 hc
    obtain ⟨k1, q⟩ := k F1 H1 hc
    obtain ⟨T, w, w2, rfl, hT, rfl, hy, hy2⟩ := y
    obtain ⟨d, e, r2⟩ := r.get2 (hy vs h1)
    obtain ⟨d2, e2, r3⟩ := q.get2 (hy2 ws k1)
    exact ⟨.tup [d, d2], zipL_get _ _ _ _ _ e e2, .inr ⟨T, _, hT, rfl, rep_tup (hc.2.1.free hT) (Reps.cons r2 (Reps.cons r3 Reps.nil)) two_le⟩⟩
theorem i_enum {elts : List Expr} {kk : Nat} {tpos p : Pos} {ea : Env → List Int → Res D} (hg : Gl X "enumerate") (hm : X.mg "enumerate" = none) (hc : X.calm = true) (ha : PE X l (tM (gd X ad) N pk ea)) (hs : starEach [l] X.env = (false, eval l X.env) :: starEach [] X.env) :
    PI X (.Tuple elts kk tpos) (.Call (.Name "enumerate" p) [l] [] pos) (tI (gd X ad) N pk (fun env dr => (ea env dr).bind fun d dr => ofO ((iterD d).map (enumL 0)) dr)) := PIw' (pi_enumG hg hm hc ha hs) fun σ H R ⟨env, F, dr, st, k⟩ => by
  refine ⟨env, F, dr, st, (post_bind k).imp (fun d dr1 h1 v H1 F1 a r1 => ?_) fun _ _ z => z⟩
  obtain ⟨xs, e1, k3⟩ := post_ofO h1
  obtain ⟨ys, e2, rfl⟩ := Option.map_eq_some_iff.mp e1
  obtain ⟨c, vs, rfl, hl, hh⟩ := src_of r1 a.s e2
  exact ⟨c, vs, rfl, (hh F1 H1 ⟨Same.refl _, a.s, fun _ _ _ e _ => e⟩).1, k3 _ H1 F1 a (itd_enum hh) (by rw [enumL_len]; exact hl)⟩
theorem i_zip {elts : List Expr} {kk : Nat} {tpos p : Pos} {ea eb : Env → List Int → Res D} (hg : Gl X "zip") (hm : X.mg "zip" = none) (hc : X.calm = true) (ha : PE X l (tM (gd X ad) N pk ea)) (hb : PE X r (tM (gd X ad) N pk eb))
    (hs : starEach [l, r] X.env = (false, eval l X.env) :: starEach [r] X.env) (hs2 : starEach [r] X.env = (false, eval r X.env) :: starEach [] X.env) (hpl : (backTo pos (starEach [r] X.env)).any (·.1) = false) :
    PI X (.Tuple elts kk tpos) (.Call (.Name "zip" p) [l, r] [] pos) (tI (gd X ad) N pk (fun env dr => (ea env dr).bind fun d dr => (eb env dr).bind fun e dr => ofO (match iterD d, iterD e with
    | some xs, some ys => some (zipL xs ys)
    | _, _ => none) dr)) := PIw' (pi_zipG hg hm hc (pa_cons ha (pa_cons hb pa_nil hs2) hs) hs hpl) fun σ H R ⟨env, F, dr, st, k⟩ => by
  refine ⟨env, F, dr, st, (post_bind k).imp (fun d dr1 h1 v H1 F1 a r1 => ?_) fun _ _ z => z⟩
  refine ⟨env, F1, dr1, st.step a, (post_bind h1).imp (fun d2 dr2 h2 v2 H2 F2 b r2 => ?_) fun e dr' z => EX.step a e dr' z⟩
  obtain ⟨xs, e1, k3⟩ := post_ofO h2
  cases q1 : iterD d with
  | none => rw [q1] at e1; cases e1
  | some ys =>
    cases q2 : iterD d2 with
    | none => rw [q1, q2] at e1; cases e1
    | some zs =>
      rw [q1, q2] at e1
      cases e1
      obtain ⟨c, vs, rfl, hl, hh⟩ := src_of (r1.step b) b.s q1
      obtain ⟨c2, ws, rfl, hl2, hh2⟩ := src_of r2 b.s q2
      exact ⟨c, c2, vs, ws, rfl, (hh F2 H2 ⟨Same.refl _, b.s, fun _ _ _ e _ => e⟩).1, (hh2 F2 H2 ⟨Same.refl _, b.s, fun _ _ _ e _ => e⟩).1, k3 _ H2 F2 (a.trans b) (itd_zip hh hh2) (by rw [zipL_len]; omega)⟩
theorem range_one {g : Gd} {F H : Hp} {ds : List D} {vs : List V} (h : RepsQ g F H ds vs) {xs : List D} (e : rngD ds = some xs) : (∃ j, ds = [.int j] ∧ vs = [.int j]) ∨ (∃ i j, ds = [.int i, .int j] ∧ vs = [.int i, .int j]) ∨ ∃ i j c, ds = [.int i, .int j, .int c] ∧ vs = [.int i, .int j, .int c] := by
  cases ds with
  | nil => cases e
  | cons d1 t =>
    obtain ⟨w, ws, rfl, r1, t1⟩ := h
    cases t with
    | nil =>
      cases (show ws = [] from t1)
      cases d1 <;> try (cases e; done)
      cases rq_int r1
      exact .inl ⟨_, rfl, rfl⟩
    | cons d2 t =>
      obtain ⟨w2, ws2, rfl, r2, t2⟩ := t1
      cases t with
      | nil =>
        cases (show ws2 = [] from t2)
        cases d1 <;> cases d2 <;> try (cases e; done)
        cases rq_int r1
        cases rq_int r2
        exact .inr (.inl ⟨_, _, rfl, rfl⟩)
      | cons d3 t =>
        obtain ⟨w3, ws3, rfl, r3, t3⟩ := t2
        cases t with
        | cons _ _ => cases d1 <;> cases d2 <;> cases d3 <;> cases e
        | nil =>
          cases (show ws3 = [] from t3)
          cases d1 <;> cases d2 <;> cases d3 <;> try (cases e; done)
          cases rq_int r1
          cases rq_int r2
          cases rq_int r3
          exact .inr (.inr ⟨_, _, _, rfl, rfl⟩)
theorem i_rng3 {tg a1 a2 a3 : Expr} {p : Pos} {el : Env → List Int → Res (List D)} (hg : Gl X "range") (hm : X.mg "range" = none) (ha : PA X [a1, a2, a3] (tAp (gd X ad) N el)) (h1 : ∀ env dr ds dr', el env dr = .ok ds dr' → ds.length = 3)
    (hs : starEach [a1, a2, a3] X.env = (false, eval a1 X.env) :: starEach [a2, a3] X.env) (hs2 : (backTo pos (starEach [a2, a3] X.env)).any (·.1) = false) :
    PI X tg (.Call (.Name "range" p) [a1, a2, a3] [] pos) (tI (gd X ad) N pk (fun env dr => (el env dr).bind fun ds dr => ofO (rngD ds) dr)) := PIw' (pi_range3 hg hm ha hs hs2) fun σ H R ⟨env, F, dr, st, k⟩ => by
  refine ⟨env, F, dr, st, ?_⟩
  have k' := post_bind k
  cases q : el env dr with
  | bad => rw [q] at k'; exact k'
  | exc e dr1 => rw [q] at k'; exact k'
  | ok ds dr1 =>
    rw [q] at k'
    have hl := h1 _ _ _ _ q
    show ∀ vs H' F', _ → _ → _
    intro vs H1 F1 a r1
    obtain ⟨xs, e1, k3⟩ := post_ofO (show (ofO (rngD ds) dr1).post _ _ from k')
    rcases range_one r1 e1 with ⟨j, rfl, rfl⟩ | ⟨i, j, rfl, rfl⟩ | ⟨i, j, c, rfl, rfl⟩
    · simp at hl
    · simp at hl
    · obtain ⟨h2, rfl⟩ := grd_some (show grd (decide (c ≠ 0) && decide (c.natAbs < 1073741824) && Builtin.Range.small i j c && szOk (Builtin.Range.rangeSize i j c).toNat) (rngL i (Builtin.Range.rangeSize i j c).toNat c) = some xs from e1)
      rw [Bool.and_eq_true, Bool.and_eq_true, Bool.and_eq_true, decide_eq_true_eq, decide_eq_true_eq] at h2
      have hnn : 0 ≤ Builtin.Range.rangeSize i j c := rangeSize_nonneg i j c
      exact ⟨i, j, c, (Builtin.Range.rangeSize i j c).toNat, rfl, ⟨h2.1.1.1, h2.1.1.2, h2.1.2, (Int.toNat_of_nonneg hnn).symm⟩, k3 _ H1 F1 a itd_rngC (by rw [rngL_len]; exact szOk_le h2.2)⟩
/-! ### walks over known dicts -/
theorem rep_ofKey {g : Gd} {F : Hp} : ∀ k : L2.Key, Rep g F (D.ofKey k) (kV k)
  | .inl _ => rfl
  | .inr _ => rfl
theorem zip_get {κ : Type} {ks : List κ} {vs : List V} {i : Nat} {k : κ} {v : V} (h : (ks.zip vs)[i]? = some (k, v)) : ks[i]? = some k ∧ vs[i]? = some v := by
  rw [List.getElem?_zip_eq_some] at h
  exact h
theorem itd_keysK {g : Gd} {F H : Hp} {ks : List L2.Key} {vs : List V} {p : Addr} {od : Obj} (h : F p = some (.frz od (.dK (ks.zip vs)))) (l : ks.length = vs.length) : ItD g pk F H (Itk p od (ks.zip vs)) (ks.map D.ofKey) where
  go := fun i F1 H1 hi hc => by
    rw [List.length_map] at hi
    exact ⟨hc.2.1 _ _ (hc.1 _ _ h), by rw [zip_len l]; exact hi⟩
  stop := fun F1 H1 hc => ⟨hc.2.1 _ _ (hc.1 _ _ h), by rw [zip_len l, List.length_map]; exact Nat.le_refl _⟩
  yld := fun i F1 H1 x H2 hi hc y => by
    obtain ⟨rfl, k, v, e, rfl⟩ := y
    obtain ⟨e1, e2⟩ := zip_get e
    exact ⟨D.ofKey k, by rw [List.getElem?_map, e1]; rfl, .inl ⟨rfl, rep_ofKey k⟩⟩
theorem itd_vals {g : Gd} {F H : Hp} {ks : List L2.Key} {ds : List D} {vs : List V} {p : Addr} {od : Obj} (h : F p = some (.frz od (.dK (ks.zip vs)))) (l : ks.length = vs.length) (r : Reps g F ds vs) : ItD g pk F H (Itd p od (ks.zip vs)) ds where
  go := fun i F1 H1 hi hc => ⟨hc.2.1 _ _ (hc.1 _ _ h), by rw [zip_len l, l, r.len]; exact hi⟩
  stop := fun F1 H1 hc => ⟨hc.2.1 _ _ (hc.1 _ _ h), by rw [zip_len l, l, r.len]; exact Nat.le_refl _⟩
  yld := fun i F1 H1 x H2 hi hc y => by
    obtain ⟨rfl, k, e⟩ := y
    obtain ⟨e1, e2⟩ := zip_get e
    obtain ⟨d, e3, r2⟩ := r.get2 e2
    exact ⟨d, e3, .inl ⟨rfl, Rep.mono hc.1 _ _ r2⟩⟩
theorem itemsL_len : ∀ {ks : List L2.Key} {ds : List D}, ks.length = ds.length → (itemsL ks ds).length = ks.length
  | [], [], _ => rfl
  | k :: ks, d :: ds, h => by
    show (itemsL ks ds).length + 1 = _
    rw [itemsL_len (by simpa using h)]
    rfl
  | [], _ :: _, h => by simp at h
  | _ :: _, [], h => by simp at h
theorem itemsL_get : ∀ {ks : List L2.Key} {ds : List D} {i : Nat} {k : L2.Key} {d : D}, ks[i]? = some k → ds[i]? = some d → (itemsL ks ds)[i]? = some (.tup [D.ofKey k, d])
  | [], _, _, _, _, h, _ => by simp at h
  | _ :: _, [], _, _, _, _, h => by simp at h
  | k :: ks, d :: ds, 0, k', d', h, e => by
    cases (show some k = some k' by simpa using h)
    cases (show some d = some d' by simpa using e)
    rfl
  | k :: ks, d :: ds, i + 1, k', d', h, e => itemsL_get (ks := ks) (ds := ds) (by simpa using h) (by simpa using e)
theorem itd_items {g : Gd} {F H : Hp} {ks : List L2.Key} {ds : List D} {vs : List V} {p : Addr} {od : Obj} (h : F p = some (.frz od (.dK (ks.zip vs)))) (l : ks.length = vs.length) (r : Reps g F ds vs) : ItD g pk F H (Iti p od (ks.zip vs)) (itemsL ks ds) where
  go := fun i F1 H1 hi hc => ⟨hc.2.1 _ _ (hc.1 _ _ h), by rw [itemsL_len (by rw [l, r.len])] at hi; rw [zip_len l]; exact hi⟩
  stop := fun F1 H1 hc => ⟨hc.2.1 _ _ (hc.1 _ _ h), by rw [itemsL_len (by rw [l, r.len]), zip_len l]; exact Nat.le_refl _⟩
  yld := fun i F1 H1 x H2 hi hc y => by
    obtain ⟨T, k, v, e, rfl, hT, rfl⟩ := y
    obtain ⟨e1, e2⟩ := zip_get e
    obtain ⟨d, e3, r2⟩ := r.get2 e2
    exact ⟨_, itemsL_get e1 e3, .inr ⟨T, _, hT, rfl, rep_tup (hc.2.1.free hT) (Reps.cons (rep_ofKey k) (Reps.cons (Rep.mono hc.1 _ _ r2) Reps.nil)) two_le⟩⟩
theorem i_keys {tg : Expr} {ea : Env → List Int → Res D} (ha : PE X l (tM (gd X ad) N false ea)) : PI X tg l (tI (gd X ad) N pk (fun env dr => (ea env dr).bind fun d dr => ofO (keysD d) dr)) := PIw' (pi_keys ha) fun σ H R ⟨env, F, dr, st, k⟩ => by
  refine ⟨env, F, dr, st, (post_bind k).imp (fun d dr1 h1 v H1 F1 a r1 => ?_) fun _ _ z => z⟩
  obtain ⟨xs, e1, k3⟩ := post_ofO h1
  have r1 := r1.rep
  cases d with
  | dicK ks ds =>
    cases (show some (ks.map D.ofKey) = some xs from e1)
    obtain ⟨n, l1, l2, p, vs, od, rfl, hF, rr⟩ := r1
    have hl : ks.length = vs.length := by rw [rr.len]; exact l2
    exact ⟨p, od, rfl, .inl ⟨_, a.s _ _ hF, k3 _ H1 F1 a (itd_keysK hF hl) (by rw [List.length_map]; exact l1)⟩⟩
  | dicT ks ds => cases e1
  | _ => cases e1
theorem i_vals {tg : Expr} {apos : Pos} {ea : Env → List Int → Res D} (ha : PE X l (tM (gd X ad) N false ea)) (hbase : attributeBase l "values" X.env (eval l X.env) = eval l X.env) (hline : (apos.endLine == pos.line) = true) :
    PI X tg (.Call (.Attribute l "values" apos) [] [] pos) (tI (gd X ad) N pk (fun env dr => (ea env dr).bind fun d dr => ofO (valsD d) dr)) := PIw' (pi_values ha hbase hline) fun σ H R ⟨env, F, dr, st, k⟩ => by
  refine ⟨env, F, dr, st, (post_bind k).imp (fun d dr1 h1 v H1 F1 a r1 => ?_) fun _ _ z => z⟩
  obtain ⟨xs, e1, k3⟩ := post_ofO h1
  have r1 := r1.rep
  cases d with
  | dicK ks ds =>
    cases (show some ds = some xs from e1)
    obtain ⟨n, l1, l2, p, vs, od, rfl, hF, rr⟩ := r1
    have hl : ks.length = vs.length := by rw [rr.len]; exact l2
    exact ⟨p, od, _, rfl, a.s _ _ hF, k3 _ H1 F1 a (itd_vals hF hl rr) (by rw [← l2]; exact l1)⟩
  | _ => cases e1
theorem i_items {elts : List Expr} {kk : Nat} {tpos apos : Pos} {ea : Env → List Int → Res D} (ha : PE X l (tM (gd X ad) N false ea)) (hbase : attributeBase l "items" X.env (eval l X.env) = eval l X.env) (hline : (apos.endLine == pos.line) = true) :
    PI X (.Tuple elts kk tpos) (.Call (.Attribute l "items" apos) [] [] pos) (tI (gd X ad) N pk (fun env dr => (ea env dr).bind fun d dr => ofO (itemsD d) dr)) := PIw' (pi_items ha hbase hline) fun σ H R ⟨env, F, dr, st, k⟩ => by
  refine ⟨env, F, dr, st, (post_bind k).imp (fun d dr1 h1 v H1 F1 a r1 => ?_) fun _ _ z => z⟩
  obtain ⟨xs, e1, k3⟩ := post_ofO h1
  have r1 := r1.rep
  cases d with
  | dicK ks ds =>
    cases (show some (itemsL ks ds) = some xs from e1)
    obtain ⟨n, l1, l2, p, vs, od, rfl, hF, rr⟩ := r1
    have hl : ks.length = vs.length := by rw [rr.len]; exact l2
    exact ⟨p, od, _, rfl, a.s _ _ hF, k3 _ H1 F1 a (itd_items hF hl rr) (by rw [itemsL_len l2]; exact l1)⟩
  | _ => cases e1
theorem i_rng1 {tg a1 : Expr} {p : Pos} {el : Env → List Int → Res (List D)} (hg : Gl X "range") (hm : X.mg "range" = none) (ha : PA X [a1] (tAp (gd X ad) N el)) (h1 : ∀ env dr ds dr', el env dr = .ok ds dr' → ds.length = 1) (hs : starEach [a1] X.env = [(false, eval a1 X.env)]) :
    PI X tg (.Call (.Name "range" p) [a1] [] pos) (tI (gd X ad) N pk (fun env dr => (el env dr).bind fun ds dr => ofO (rngD ds) dr)) := PIw' (pi_range1 hg hm ha hs) fun σ H R ⟨env, F, dr, st, k⟩ => by
  refine ⟨env, F, dr, st, ?_⟩
  have k' := post_bind k
  cases q : el env dr with
  | bad => rw [q] at k'; exact k'
  | exc e dr1 => rw [q] at k'; exact k'
  | ok ds dr1 =>
    rw [q] at k'
    have hl := h1 _ _ _ _ q
    show ∀ vs H' F', _ → _ → _
    intro vs H1 F1 a r1
    obtain ⟨xs, e1, k3⟩ := post_ofO (show (ofO (rngD ds) dr1).post _ _ from k')
    rcases range_one r1 e1 with ⟨j, rfl, rfl⟩ | ⟨i, j, rfl, rfl⟩ | ⟨i, j, c, rfl, rfl⟩
    · obtain ⟨h2, rfl⟩ := grd_some (show grd (in62 j && szOk j.toNat) (rngL 0 j.toNat 1) = some xs from e1)
      rw [Bool.and_eq_true] at h2
      have h3 := of_decide_eq_true h2.1
      exact ⟨j, rfl, h3.1, h3.2, k3 _ H1 F1 a itd_rng (by rw [rngL_len]; exact szOk_le h2.2)⟩
    · simp at hl
    · simp at hl
theorem i_rng2 {tg a1 a2 : Expr} {p : Pos} {el : Env → List Int → Res (List D)} (hg : Gl X "range") (hm : X.mg "range" = none) (ha : PA X [a1, a2] (tAp (gd X ad) N el)) (h1 : ∀ env dr ds dr', el env dr = .ok ds dr' → ds.length = 2)
    (hs : starEach [a1, a2] X.env = [(false, eval a1 X.env), (false, eval a2 X.env)]) (hs2 : starEach [a2] X.env = [(false, eval a2 X.env)]) :
    PI X tg (.Call (.Name "range" p) [a1, a2] [] pos) (tI (gd X ad) N pk (fun env dr => (el env dr).bind fun ds dr => ofO (rngD ds) dr)) := PIw' (pi_range2 hg hm ha hs hs2) fun σ H R ⟨env, F, dr, st, k⟩ => by
  refine ⟨env, F, dr, st, ?_⟩
  have k' := post_bind k
  cases q : el env dr with
  | bad => rw [q] at k'; exact k'
  | exc e dr1 => rw [q] at k'; exact k'
  | ok ds dr1 =>
    rw [q] at k'
    have hl := h1 _ _ _ _ q
    show ∀ vs H' F', _ → _ → _
    intro vs H1 F1 a r1
    obtain ⟨xs, e1, k3⟩ := post_ofO (show (ofO (rngD ds) dr1).post _ _ from k')
    rcases range_one r1 e1 with ⟨j, rfl, rfl⟩ | ⟨i, j, rfl, rfl⟩ | ⟨i, j, c, rfl, rfl⟩
    · simp at hl
    · obtain ⟨h2, rfl⟩ := grd_some (show grd (in62 i && in62 j && szOk (j - i).toNat) (rngL i (j - i).toNat 1) = some xs from e1)
      rw [Bool.and_eq_true, Bool.and_eq_true] at h2
      have h3 := of_decide_eq_true h2.1.1
      have h4 := of_decide_eq_true h2.1.2
      exact ⟨i, j, rfl, ⟨h3.1, h3.2, h4.1, h4.2⟩, k3 _ H1 F1 a itd_rng (by rw [rngL_len]; exact szOk_le h2.2)⟩
    · simp at hl

/-! ### patterns -/
def gP (g : Gd) (N : En) (p : Pat) : TG := fun v σ H Q => ∃ env F dr d, StR g N.F0 N.H0 σ env F H dr ∧ Rep g F d v ∧ ∃ env', asgP p d env = some env' ∧
  ∀ σ', StR g N.F0 N.H0 σ' env' F H dr → σ'.length = σ.length → (∀ i, i ∉ slots p → σ'[i]? = σ[i]?) → Q σ' H
def gPs (g : Gd) (N : En) (p : Pat) : TGs := fun vs σ H Q => ∃ env F dr ds, StR g N.F0 N.H0 σ env F H dr ∧ Reps g F ds vs ∧ ∃ env', asgP p (.lst ds) env = some env' ∧
  ∀ σ', StR g N.F0 N.H0 σ' env' F H dr → σ'.length = σ.length → (∀ i, i ∉ slots p → σ'[i]? = σ[i]?) → Q σ' H
theorem PGw' {tg : Expr} {t t' : TG} (h : PG X tg t) (i : ∀ v σ H Q, t' v σ H Q → t v σ H Q) : PG X tg t' := ⟨fun pins s σ H v u Q I r q => h.run pins s σ H v u Q I r (i _ _ _ _ q)⟩
theorem PGsw' {ts : List Expr} {t t' : TGs} (h : PGs X ts t) (i : ∀ v σ H Q, t' v σ H Q → t v σ H Q) : PGs X ts t' := ⟨fun pins s σ H v u Q I r q => h.run pins s σ H v u Q I r (i _ _ _ _ q)⟩
theorem g_nm {i : Nat} {x : Str} {p : Pos} (hN : X.N.Nodup) (hi : X.N[i]? = some x) (hx : Loc X.env.scope x) (hf : X.fn x = true ∨ X.env.scope.names.lookup x = some .local) : PG X (.Name x p) (gP (gd X ad) N (.nm i)) := PGw' (pg_name hN hi hx hf) fun v σ H Q ⟨env, F, dr, d, st, r, env', e, k⟩ => by
  have e' : (if i < env.length then some (env.set i (.val d)) else none) = some env' := e
  split at e'
  · rename_i hl
    cases e'
    exact k _ (st.setV hl r) (by rw [List.length_set]) fun j hj => by
      have hne : ¬ i = j := fun z => hj (by rw [z]; exact List.mem_singleton.mpr rfl)
      rw [List.getElem?_set_ne hne]
  · cases e'
theorem gs_nil : PGs X [] (gPs (gd X ad) N .nil) := PGsw' pgs_nil fun vs σ H Q ⟨env, F, dr, ds, st, r, env', e, k⟩ => by
  cases ds with
  | nil =>
    cases (show some env = some env' from e)
    exact ⟨r, k σ st rfl fun _ _ => rfl⟩
  | cons _ _ => cases e
theorem gs_cons {e1 : Expr} {es : List Expr} {p ps : Pat} (h1 : PG X e1 (gP (gd X ad) N p)) (h2 : PGs X es (gPs (gd X ad) N ps)) (hs : (assignEach (e1 :: es) X.env).map (·.2) = assign e1 X.env :: (assignEach es X.env).map (·.2)) :
    PGs X (e1 :: es) (gPs (gd X ad) N (.cons p ps)) := PGsw' (pgs_cons h1 h2 hs) fun vs σ H Q ⟨env, F, dr, ds, st, r, env', e, k⟩ => by
  cases ds with
  | nil => cases e
  | cons d ds =>
    obtain ⟨w, ws, rfl, r1, r2⟩ := r
    have e' : (asgP p d env).bind (fun env => asgP ps (.lst ds) env) = some env' := e
    cases q : asgP p d env with
    | none => rw [q] at e'; cases e'
    | some env1 =>
      rw [q] at e'
      refine ⟨w, ws, rfl, env, F, dr, d, st, r1, env1, q, fun σ1 st1 l1 o1 => ?_⟩
      exact ⟨env1, F, dr, ds, st1, r2, env', e', fun σ2 st2 l2 o2 => k σ2 st2 (l2.trans l1) fun j hj => by
        have hj' : ¬ (j ∈ slots p ∨ j ∈ slots ps) := fun z => hj (List.mem_append.mpr z)
        rw [o2 j (fun z => hj' (.inr z)), o1 j (fun z => hj' (.inl z))]⟩
theorem asgP_len : ∀ (p : Pat) (ds : List D) (env env' : Env), asgP p (.lst ds) env = some env' → (∃ n, p = .nm n) ∨ (∃ q, p = .tp q) ∨ True := fun _ _ _ _ _ => .inr (.inr trivial)
def patLen : Pat → Nat
  | .cons _ ps => patLen ps + 1
  | _ => 0
def patRow : Pat → Bool
  | .nil => true
  | .cons _ ps => patRow ps
  | _ => false
theorem patLen_ok : ∀ (p : Pat) (ds : List D) (env env' : Env), patRow p = true → asgP p (.lst ds) env = some env' → ds.length = patLen p
  | .nil, ds, env, env', _, e => by
    cases ds with
    | nil => rfl
    | cons _ _ => cases e
  | .cons p ps, ds, env, env', h, e => by
    cases ds with
    | nil => cases e
    | cons d ds =>
      have e' : (asgP p d env).bind (fun env => asgP ps (.lst ds) env) = some env' := e
      cases q : asgP p d env with
      | none => rw [q] at e'; cases e'
      | some env1 =>
        rw [q] at e'
        have := patLen_ok ps ds env1 env' h e'
        simp only [List.length_cons, this]
        rfl
  | .nm _, _, _, _, h, _ => by cases h
  | .tp _, _, _, _, h, _ => by cases h
theorem g_tp {es : List Expr} {k : Nat} {p : Pos} {ps : Pat} (hc : X.calm = true) (h : PGs X es (gPs (gd X ad) N ps)) (hp : patRow ps = true) (hn : (assignEach es X.env).length = patLen ps) (hst : (assignEach es X.env).findIdx? (·.1) = none) :
    PG X (.Tuple es k p) (gP (gd X ad) N (.tp ps)) := by
  refine ⟨fun pins s σ H v u Q I r q => ?_⟩
  obtain ⟨env, F, dr, d, st, rd, env', e, kk⟩ := q
  cases d with
  | tup ds =>
    obtain ⟨l, a, vs, rfl, h1, t⟩ := rd
    exact (pg_tup hc h hn hst).run pins s σ H _ u Q I r ⟨a, vs, rfl, .of (st.po.s _ _ h1), by rw [t.len]; exact patLen_ok ps ds env env' hp e, env, F, dr, ds, st, t, env', e, kk⟩
  | lst ds =>
    obtain ⟨l, a, vs, rfl, h1, t⟩ := rd
    exact (pg_lst hc h hn hst).run pins s σ H _ u Q I r ⟨a, vs, rfl, .of (st.po.s _ _ h1), by rw [t.len]; exact patLen_ok ps ds env env' hp e, env, F, dr, ds, st, t, env', e, kk⟩
  | _ => cases e

/-! ### comprehensions -/
theorem wipe_get (σ : L2.St) (j : Nat) : ∀ vs : List Nat, (wipe σ vs)[j]? = if j ∈ vs then (σ[j]?).map (fun _ => none) else σ[j]?
  | [] => by simp [wipe]
  | v :: vs => by
    unfold wipe
    by_cases h : v = j
    · subst h
      by_cases hl : v < σ.length
      · rw [List.getElem?_set_self (by rw [wipe_length]; exact hl), if_pos List.mem_cons_self, List.getElem?_eq_getElem hl]
        rfl
      · rw [List.getElem?_eq_none (by rw [List.length_set, wipe_length]; omega), if_pos List.mem_cons_self, List.getElem?_eq_none (by omega)]
        rfl
    · rw [List.getElem?_set_ne h, wipe_get σ j vs]
      by_cases hj : j ∈ vs
      · rw [if_pos hj, if_pos (List.mem_cons_of_mem _ hj)]
      · rw [if_neg hj, if_neg (fun z => by rcases List.mem_cons.mp z with z | z <;> first | exact h z.symm | exact hj z)]
theorem wipe_same {σ σ' : L2.St} {vs : List Nat} (hl : σ'.length = σ.length) (h : ∀ i, i ∉ vs → σ'[i]? = σ[i]?) : wipe σ' vs = wipe σ vs := by
  refine List.ext_getElem? fun j => ?_
  rw [wipe_get, wipe_get]
  by_cases hj : j ∈ vs
  · rw [if_pos hj, if_pos hj]
    by_cases hb : j < σ.length
    · rw [List.getElem?_eq_getElem hb, List.getElem?_eq_getElem (show j < σ'.length by omega)]
      rfl
    · rw [List.getElem?_eq_none (show σ.length ≤ j by omega), List.getElem?_eq_none (show σ'.length ≤ j by omega)]
  · rw [if_neg hj, if_neg hj]
    exact h j hj
theorem wipe_wipe (σ : L2.St) (vs : List Nat) : wipe (wipe σ vs) vs = wipe σ vs := wipe_same (wipe_length _ _) fun i hi => by rw [wipe_get, if_neg hi]
theorem wipeE_get (env : Env) (j : Nat) : ∀ vs : List Nat, get (wipeE env vs) j = if j ∈ vs then .no else get env j
  | [] => by simp [wipeE]
  | v :: vs => by
    have hl : ∀ (vs : List Nat), (wipeE env vs).length = env.length := by
      intro vs
      induction vs with
      | nil => rfl
      | cons v vs ih => show ((wipeE env vs).set v .no).length = _; rw [List.length_set, ih]
    show get ((wipeE env vs).set v .no) j = _
    rw [get_set, hl, wipeE_get env j vs]
    by_cases h : v = j
    · subst h
      by_cases hb : v < env.length
      · rw [if_pos ⟨rfl, hb⟩, if_pos List.mem_cons_self]
      · rw [if_neg (fun z => hb z.2), if_pos List.mem_cons_self]
        have : get env v = .no := by
          unfold get
          rw [List.getD_eq_getElem?_getD, List.getElem?_eq_none (by omega)]
          rfl
        rw [this]
        split <;> rfl
    · rw [if_neg (fun z => h z.1)]
      by_cases hj : j ∈ vs
      · rw [if_pos hj, if_pos (List.mem_cons_of_mem _ hj)]
      · rw [if_neg hj, if_neg (fun z => by rcases List.mem_cons.mp z with z | z <;> first | exact h z.symm | exact hj z)]
theorem wipeE_len (env : Env) : ∀ vs : List Nat, (wipeE env vs).length = env.length
  | [] => rfl
  | v :: vs => by show ((wipeE env vs).set v .no).length = _; rw [List.length_set, wipeE_len env vs]
theorem StR.wipe {g : Gd} {F0 H0 F H : Hp} {dr : List Int} {σ : L2.St} {env : Env} (st : StR g F0 H0 σ env F H dr) (vs : List Nat) : StR g F0 H0 (wipe σ vs) (wipeE env vs) F H dr := by
  refine ⟨st.po, by rw [wipe_length, wipeE_len]; exact st.len, fun i => ?_, fun i j d e p h1 h2 h3 h4 => ?_⟩
  · rw [wipeE_get, wipe_get]
    by_cases hi : i ∈ vs
    · rw [if_pos hi, if_pos hi]
      trivial
    · rw [if_neg hi, if_neg hi]
      exact st.slot i
  · rw [wipeE_get] at h1 h2
    rw [wipe_get] at h3 h4
    by_cases hi : i ∈ vs
    · rw [if_pos hi] at h1; cases h1
    · by_cases hj : j ∈ vs
      · rw [if_pos hj] at h2; cases h2
      · rw [if_neg hi] at h1 h3
        rw [if_neg hj] at h2 h4
        exact st.apart i j d e p h1 h2 h3 h4
/-- within a comprehension no error is wished for -/
def En.blk (N : En) : En := ⟨N.F0, N.H0, fun _ _ _ _ => False⟩
theorem lcL_len {b : D → List Int → Res (Option D)} : ∀ (xs : List D) (dr : List Int) (ys : List D) (dr2 : List Int), lcL b xs dr = .ok ys dr2 → ys.length ≤ xs.length
  | [], dr, ys, dr2, h => by cases h; exact Nat.le_refl _
  | x :: xs, dr, ys, dr2, h => by
    have h' : ((b x dr).bind fun o dr => (lcL b xs dr).bind fun r dr => .ok (match o with | some y => y :: r | none => r) dr) = .ok ys dr2 := h
    cases q : b x dr with
    | bad => rw [q] at h'; cases h'
    | exc _ _ => rw [q] at h'; cases h'
    | ok o dr1 =>
      rw [q, Res.bind_ok] at h'
      cases q2 : lcL b xs dr1 with
      | bad => rw [q2] at h'; cases h'
      | exc _ _ => rw [q2] at h'; cases h'
      | ok r dr3 =>
        rw [q2, Res.bind_ok] at h'
        have := lcL_len xs dr1 r dr3 q2
        cases o <;> (cases h'; simp only [List.length_cons]; omega)
theorem lcL_cons {b : D → List Int → Res (Option D)} {x : D} {xs : List D} {dr dr2 : List Int} {ys : List D} (h : lcL b (x :: xs) dr = .ok ys dr2) : ∃ o dr1 r, b x dr = .ok o dr1 ∧ lcL b xs dr1 = .ok r dr2 ∧ ys = match o with
    | some y => y :: r
    | none => r := by
  have h' : ((b x dr).bind fun o dr => (lcL b xs dr).bind fun r dr => .ok (match o with | some y => y :: r | none => r) dr) = .ok ys dr2 := h
  cases q : b x dr with
  | bad => rw [q] at h'; cases h'
  | exc _ _ => rw [q] at h'; cases h'
  | ok o dr1 =>
    rw [q, Res.bind_ok] at h'
    cases q2 : lcL b xs dr1 with
    | bad => rw [q2] at h'; cases h'
    | exc _ _ => rw [q2] at h'; cases h'
    | ok r dr3 =>
      rw [q2, Res.bind_ok] at h'
      cases h'
      exact ⟨o, dr1, r, rfl, q2, rfl⟩
theorem noX_ok {α : Type} {r : Res α} {P : α → List Int → Prop} {E : Ex → List Int → Prop} (h : (noX r).post P E) : ∃ a dr, r = .ok a dr ∧ P a dr := by
  cases r with
  | ok a dr => exact ⟨a, dr, rfl, h⟩
  | exc _ _ => exact h.elim
  | bad => exact h.elim
theorem bind_ok {α β : Type} {r : Res α} {f : α → List Int → Res β} {b : β} {dr : List Int} (h : r.bind f = .ok b dr) : ∃ a dr1, r = .ok a dr1 ∧ f a dr1 = .ok b dr := by
  cases r with
  | ok a dr1 => exact ⟨a, dr1, rfl, h⟩
  | exc _ _ => cases h
  | bad => cases h
theorem ofO_ok {α : Type} {o : Option α} {dr dr1 : List Int} {a : α} (h : ofO o dr = .ok a dr1) : o = some a ∧ dr1 = dr := by
  cases o with
  | none => cases h
  | some x => cases h; exact ⟨rfl, rfl⟩
/-- one item of a comprehension -/
def lcB (p : Pat) (vs : List Nat) (et : Env → List Int → Res Bool) (ee : Env → List Int → Res D) (env : Env) : D → List Int → Res (Option D) := fun d dr => (ofO (asgP p d (wipeE env vs)) dr).bind fun env dr =>
  (et env dr).bind fun k dr => match k with
    | true => (ee env dr).bind fun y dr => .ok (some y) dr
    | false => .ok none dr
/-- the state of a comprehension behind some items -/
structure LcSt (g : Gd) (F1 H1 : Hp) (D0 : Addr) (b : D → List Int → Res (Option D)) (xs ys : List D) (dr2 : List Int) (i : Nat) (H : Hp) : Prop where
  ex : ∃ F dr acc vs rest, Post g F1 H1 F H dr ∧ H D0 = some (.lst vs) ∧ F D0 = none ∧ Reps g F acc vs ∧ lcL b (xs.drop i) dr = .ok rest dr2 ∧ ys = acc ++ rest ∧ acc.length ≤ i
theorem sub_cond {g : Gd} {F H F1 H1 : Hp} {dr : List Int} (a : Post g F H F1 H1 dr) : Cond g true F H F1 H1 := ⟨a.f, a.s, fun _ b o e n => a.old b o e n⟩
theorem lc_imp {p : Pat} {ei : Env → List Int → Res (List D)} {et : Env → List Int → Res Bool} {ee : Env → List Int → Res D} {σ : L2.St} {H : Hp} {Q : VK}
    (h : tMF (gd X ad) N (fun env dr => (ei env dr).bind fun xs dr => noX ((lcL (lcB p (slots p) et ee env) xs dr).bind fun ys dr => .ok (.lst ys) dr)) σ H Q) :
    tLc (tI (gd X ad) N true ei) (gP (gd X ad) N.blk p) (tT (gd X ad) N.blk et) (tM (gd X ad) N.blk false ee) (slots p) σ H Q := by
  obtain ⟨env, F, dr, st, k⟩ := h
  refine ⟨env, F, dr, st, (post_bind k).imp (fun xs dr1 h1 J H1 F1 a it hl D0 hD => ?_) fun _ _ z => z⟩
  obtain ⟨d, dr2, e1, k1⟩ := noX_ok h1
  obtain ⟨ys, dr2b, e2, e3⟩ := bind_ok e1
  cases e3
  have hne : some D0 ≠ ad := a.pne hD
  have hF1 : F1 D0 = none := a.s.free hD
  have hHD : H D0 = none := by
    cases q : H D0 with
    | none => rfl
    | some o => rw [a.old D0 o q hne] at hD; cases hD
  refine ⟨fun i m H' => m = xs.length - i ∧ i ≤ xs.length ∧ LcSt (gd X ad) F1 H1 D0 (lcB p (slots p) et ee env) xs ys dr2 i H',
    ⟨xs.length, by simp, Nat.zero_le _, ⟨F1, dr1, [], [], ys, a.self.allocH hD, upd_same, hF1, rfl, by rw [List.drop_zero]; exact e2, rfl, Nat.le_refl _⟩⟩, ?_⟩
  rintro i m H' ⟨rfl, hi', ⟨F2, dr', acc, vs, rest, po, hv, hF2, r, el, ey, hacc⟩⟩
  by_cases hlt : i < xs.length
  · right
    refine ⟨it.go i F2 H' hlt (sub_cond po), fun H'' => LcSt (gd X ad) F1 H1 D0 (lcB p (slots p) et ee env) xs ys dr2 (i + 1) H'', fun H'' w => ⟨xs.length - (i + 1), by omega, rfl, hlt, w⟩, fun x H2 y => ?_⟩
    obtain ⟨d, ed, cases2⟩ := it.yld i F2 H' x H2 hlt (sub_cond po) y
    obtain ⟨F3, po3, rx, hv3, hF3⟩ : ∃ F3, Post (gd X ad) F2 H' F3 H2 dr' ∧ Rep (gd X ad) F3 d x ∧ H2 D0 = some (.lst vs) ∧ F3 D0 = none := by
      rcases cases2 with ⟨rfl, rx⟩ | ⟨T, o, hT, rfl, rx⟩
      · exact ⟨F2, po.self, rx, hv, hF2⟩
      · have hTD : D0 ≠ T := ne_of_none hv hT
        exact ⟨upd F2 T o, po.self.alloc hT, rx, by rw [upd_ne hTD]; exact hv, by rw [upd_ne hTD]; exact hF2⟩
    rw [List.drop_eq_getElem_cons hlt] at el
    have exd : xs[i] = d := by
      rw [List.getElem?_eq_getElem hlt] at ed
      exact Option.some.inj ed
    rw [exd] at el
    obtain ⟨o, dr3, rest', eb, el', er⟩ := lcL_cons el
    obtain ⟨env', dr4, ea, eb2⟩ := bind_ok eb
    obtain ⟨ea2, rfl⟩ := ofO_ok ea
    obtain ⟨kb, dr5, et1, eb3⟩ := bind_ok eb2
    have stw := ((st.step (a.trans (po.trans po3))).wipe (slots p))
    refine ⟨wipeE env (slots p), F3, dr4, d, stw, rx, env', ea2, fun σ2 st2 l2 o2 => ?_⟩
    refine ⟨by rw [wipe_same l2 o2, wipe_wipe], env', F3, dr4, st2, ?_⟩
    rw [et1]
    show ∀ H4 F4, _ → _
    intro H4 F4 po4
    have hv4 : H4 D0 = some (.lst vs) := po4.old _ _ hv3 hne
    have hF4 : F4 D0 = none := by
      cases q : F4 D0 with
      | none => rfl
      | some u =>
        rcases po4.new D0 (by rw [q]; simp) with z | z
        · exact absurd hF3 z
        · rw [hv3] at z; cases z
    cases kb with
    | false =>
      cases eb3
      rw [if_neg Bool.false_ne_true]
      exact ⟨F4, dr3, acc, vs, rest', (po.trans po3).trans po4, hv4, hF4, Reps.mono (po3.f.trans po4.f) _ _ r, el', by rw [ey, er], by omega⟩
    | true =>
      obtain ⟨y, dr6, ee1, eb4⟩ := bind_ok eb3
      cases eb4
      rw [if_pos rfl]
      refine ⟨env', F4, dr5, st2.step po4, ?_⟩
      rw [ee1]
      show ∀ v H' F', _ → _ → _
      intro v H5 F5 po5 r5
      have hv5 : H5 D0 = some (.lst vs) := po5.old _ _ hv4 hne
      have hF5 : F5 D0 = none := by
        cases q : F5 D0 with
        | none => rfl
        | some u =>
          rcases po5.new D0 (by rw [q]; simp) with z | z
          · exact absurd hF4 z
          · rw [hv4] at z; cases z
      have r6 := Reps.mono (po3.f.trans (po4.f.trans po5.f)) _ _ r
      have hlen := r6.len
      refine ⟨vs, hv5, by omega, F5, dr3, acc ++ [y], vs ++ [v], rest', ?_, upd_same, hF5, r6.snoc r5.rep, el', by rw [ey, er]; simp, by rw [List.length_append]; simp; omega⟩
      exact ((po.trans po3).trans (po4.trans po5)).mut hD hF5 hne
  · have e : i = xs.length := by omega
    subst e
    rw [List.drop_length] at el
    cases (show Res.ok [] dr' = .ok rest dr2 from el)
    rw [List.append_nil] at ey
    subst ey
    have hlen : ys.length ≤ xs.length := lcL_len _ _ _ _ e2
    exact .inl ⟨it.stop F2 H' (sub_cond po), k1 D0 H' F2 (a.trans po) hHD hF2 ⟨by omega, vs, hv, r⟩⟩
theorem m_lc {tg it elt : Expr} {ifs : List Expr} {scope : Scope} {own : List (Str × Nat)} {p : Pat} {ei : Env → List Int → Res (List D)} {et : Env → List Int → Res Bool} {ee : Env → List Int → Res D} (hc : X.calm = true) (hN : X.N.Nodup) (ok : BlkOk X.N X.env.scope scope own) (hown : own.map (·.2) = slots p)
    (hi : PI X tg it (tI (gd X ad) N true ei)) (hg : ∀ (s : Shared) (H : Hp) (C : Addr) (cl : List (Str × Addr)) (fp : List Addr), PG (X.blk s H scope (compEnvC scope cl C X.env) fp) tg (gP (gd X ad) N.blk p))
    (ht : ∀ (s : Shared) (H : Hp) (C : Addr) (cl : List (Str × Addr)) (fp : List Addr), PTs (X.blk s H scope (compEnvC scope cl C X.env) fp) ifs (tT (gd X ad) N.blk et))
    (he : ∀ (s : Shared) (H : Hp) (C : Addr) (cl : List (Str × Addr)) (fp : List Addr), PE (X.blk s H scope (compEnvC scope cl C X.env) fp) elt (tM (gd X ad) N.blk false ee)) (hs : ∀ x, foldedSetIterable it X.env x = pure x) :
    PE X (.ListComp elt [⟨tg, it, ifs, 0⟩] scope pos) (tMF (gd X ad) N (fun env dr => (ei env dr).bind fun xs dr => noX ((lcL (lcB p (slots p) et ee env) xs dr).bind fun ys dr => .ok (.lst ys) dr))) := PEw' (pe_lc hc hN hi ok hg ht he hs) fun σ H Q h => by
  rw [hown]
  exact lc_imp h
end
end Cr
/-! Statements upon trees. -/
namespace Cr
open PySem PySem.Spec PyProof.Rows L2

def FlP (g : Gd) (N : En) (D : Ends) (F : Hp) : Fl → List Int → Prop
  | .nx env, dr => ∀ σ' H' F', StR g N.F0 N.H0 σ' env F' H' dr → Sub F F' → D.nx σ' H'
  | .bk env, dr => ∀ σ' H' F', StR g N.F0 N.H0 σ' env F' H' dr → Sub F F' → D.bk σ' H'
  | .ct env, dr => ∀ σ' H' F', StR g N.F0 N.H0 σ' env F' H' dr → Sub F F' → D.ct σ' H'
  | .rt d, dr => ∀ v H' F', Post g N.F0 N.H0 F' H' dr → Rep g F' d v → D.rt v H'
def EXs (g : Gd) (N : En) : Ex → List Int → Prop := fun e dr => ∀ cls dd σ' H' F', Post g N.F0 N.H0 F' H' dr → ExR g F' H' e cls dd → N.W cls dd σ' H'
def tS (g : Gd) (N : En) (ev : Env → List Int → Res Fl) : TS := fun D σ H => ∃ env F dr, StR g N.F0 N.H0 σ env F H dr ∧ (ev env dr).post (FlP g N D F) (EXs g N)
theorem FlP.up {g : Gd} {N : En} {D : Ends} {F F1 : Hp} (s : Sub F F1) (f : Fl) (dr : List Int) (h : FlP g N D F f dr) : FlP g N D F1 f dr := by
  cases f with
  | nx env => exact fun σ' H' F' st t => h σ' H' F' st (s.trans t)
  | bk env => exact fun σ' H' F' st t => h σ' H' F' st (s.trans t)
  | ct env => exact fun σ' H' F' st t => h σ' H' F' st (s.trans t)
  | rt d => exact h
theorem EXs.ex {g : Gd} {N : En} {F H : Hp} {σ : L2.St} {env : Env} {dr : List Int} (st : StR g N.F0 N.H0 σ env F H dr) (e : Ex) (dr' : List Int) (h : EXs g N e dr') : EX g N.W F H σ e dr' := fun cls dd H' F' a x => h cls dd σ H' F' (st.po.trans a) x

section
variable {X : Cx} {ad : Option Addr} {N : En} {pk : Bool} {pos : Pos} {e l r : Expr} {rest : List Stmt} {σ : L2.St} {H F : Hp} {env : Env} {dr : List Int} {D0 : Ends}
/-- an expression, then what follows -/
theorem sE {ea : Env → List Int → Res D} {f : D → List Int → Res Fl} {R : VK} (st : StR (gd X ad) N.F0 N.H0 σ env F H dr) (h : ((ea env dr).bind f).post (FlP (gd X ad) N D0 F) (EXs (gd X ad) N))
    (k : ∀ x dr1 v H1 F1, StR (gd X ad) N.F0 N.H0 σ env F1 H1 dr1 → Sub F F1 → RepQ (gd X ad) pk F1 H1 x v → (f x dr1).post (FlP (gd X ad) N D0 F1) (EXs (gd X ad) N) → R v H1) : tM (gd X ad) N pk ea σ H R :=
  ⟨env, F, dr, st, (post_bind h).imp (fun x dr1 h1 v H1 F1 a r1 => k x dr1 v H1 F1 (st.step a) a.f r1 (h1.imp (fun f dr z => z.up a.f f dr) fun _ _ z => z)) fun e dr' z => EXs.ex st e dr' z⟩
theorem sF {ea : Env → List Int → Res D} {f : D → List Int → Res Fl} {R : VK} (st : StR (gd X ad) N.F0 N.H0 σ env F H dr) (h : ((ea env dr).bind f).post (FlP (gd X ad) N D0 F) (EXs (gd X ad) N))
    (k : ∀ x dr1 p H1 F1, StR (gd X ad) N.F0 N.H0 σ env F1 H1 dr1 → Sub F F1 → H p = none → F1 p = none → OwnR (gd X ad) F1 H1 p x → (f x dr1).post (FlP (gd X ad) N D0 F1) (EXs (gd X ad) N) → R (.ref p) H1) : tMF (gd X ad) N ea σ H R :=
  ⟨env, F, dr, st, (post_bind h).imp (fun x dr1 h1 p H1 F1 a hp hf r1 => k x dr1 p H1 F1 (st.step a) a.f hp hf r1 (h1.imp (fun f dr z => z.up a.f f dr) fun _ _ z => z)) fun e dr' z => EXs.ex st e dr' z⟩
theorem sT {ea : Env → List Int → Res Bool} {f : Bool → List Int → Res Fl} {R : Bool → Hp → Prop} (st : StR (gd X ad) N.F0 N.H0 σ env F H dr) (h : ((ea env dr).bind f).post (FlP (gd X ad) N D0 F) (EXs (gd X ad) N))
    (k : ∀ x dr1 H1 F1, StR (gd X ad) N.F0 N.H0 σ env F1 H1 dr1 → Sub F F1 → (f x dr1).post (FlP (gd X ad) N D0 F1) (EXs (gd X ad) N) → R x H1) : tT (gd X ad) N ea σ H R :=
  ⟨env, F, dr, st, (post_bind h).imp (fun x dr1 h1 H1 F1 a => k x dr1 H1 F1 (st.step a) a.f (h1.imp (fun f dr z => z.up a.f f dr) fun _ _ z => z)) fun e dr' z => EXs.ex st e dr' z⟩
theorem sA {ea : Env → List Int → Res (List D)} {f : List D → List Int → Res Fl} {R : List V → Hp → Prop} (st : StR (gd X ad) N.F0 N.H0 σ env F H dr) (h : ((ea env dr).bind f).post (FlP (gd X ad) N D0 F) (EXs (gd X ad) N))
    (k : ∀ x dr1 v H1 F1, StR (gd X ad) N.F0 N.H0 σ env F1 H1 dr1 → Sub F F1 → Reps (gd X ad) F1 x v → (f x dr1).post (FlP (gd X ad) N D0 F1) (EXs (gd X ad) N) → R v H1) : tA (gd X ad) N ea σ H R :=
  ⟨env, F, dr, st, (post_bind h).imp (fun x dr1 h1 v H1 F1 a r1 => k x dr1 v H1 F1 (st.step a) a.f r1 (h1.imp (fun f dr z => z.up a.f f dr) fun _ _ z => z)) fun e dr' z => EXs.ex st e dr' z⟩

theorem s_done : PSs X [] (tS (gd X ad) N (fun env dr => .ok (.nx env) dr)) := PSsw' pss_nil fun D σ H ⟨env, F, dr, st, h⟩ => h σ H F st (Same.refl _)
theorem s_ret {ea : Env → List Int → Res D} (he : PE X e (tM (gd X ad) N false ea)) : PSs X (.Return (some e) pos :: rest) (tS (gd X ad) N (fun env dr => (ea env dr).bind fun d dr => .ok (.rt d) dr)) :=
  PSsw' (pss_cons (ps_ret he) pss_never) fun D σ H ⟨env, F, dr, st, h⟩ => sE st h fun x dr1 v H1 F1 st1 _ r1 k => k v H1 F1 st1.po r1.rep
theorem s_ret0 : PSs X (.Return none pos :: rest) (tS (gd X ad) N (fun _ dr => .ok (.rt .non) dr)) :=
  PSsw' (pss_cons ps_retN pss_never) fun D σ H ⟨env, F, dr, st, h⟩ => h .non H F st.po rfl
theorem s_brk : PSs X (.Break pos :: rest) (tS (gd X ad) N (fun env dr => .ok (.bk env) dr)) :=
  PSsw' (pss_cons ps_break pss_never) fun D σ H ⟨env, F, dr, st, h⟩ => h σ H F st (Same.refl _)
theorem s_cnt : PSs X (.Continue pos :: rest) (tS (gd X ad) N (fun env dr => .ok (.ct env) dr)) :=
  PSsw' (pss_cons ps_continue pss_never) fun D σ H ⟨env, F, dr, st, h⟩ => h σ H F st (Same.refl _)
theorem s_ex {ea : Env → List Int → Res D} {ek : Env → List Int → Res Fl} (he : PE X e (tM (gd X ad) N false ea)) (hs : swapsWith e none pos.line X.env = pure false) (hk : PSs X rest (tS (gd X ad) N ek)) :
    PSs X (.Expr e pos :: rest) (tS (gd X ad) N (fun env dr => (ea env dr).bind fun _ dr => ek env dr)) :=
  PSsw' (pss_cons (ps_expr he hs) hk) fun D σ H ⟨env, F, dr, st, h⟩ => sE st h fun x dr1 v H1 F1 st1 _ r1 k => ⟨env, F1, dr1, st1, k⟩
theorem s_pass {ek : Env → List Int → Res Fl} (hk : PSs X rest (tS (gd X ad) N ek)) : PSs X (.Pass pos :: rest) (tS (gd X ad) N ek) :=
  PSsw' (pss_cons ps_pass hk) fun D σ H h => h
/-- a target takes a value -/
theorem s_asg {tg : Expr} {p : Pat} {ea : Env → List Int → Res D} {ek : Env → List Int → Res Fl} (he : PE X e (tM (gd X ad) N false ea)) (hg : PG X tg (gP (gd X ad) N p)) (hs : swapsWithSole [tg] e pos.line X.env = pure false)
    (hw : swappedStores [tg] e X.env = pure none) (h1 : (assignEach [tg] X.env).map (·.2) = [assign tg X.env]) (hk : PSs X rest (tS (gd X ad) N ek)) :
    PSs X (.Assign [tg] e pos :: rest) (tS (gd X ad) N (fun env dr => (ea env dr).bind fun d dr => (ofO (asgP p d env) dr).bind fun env dr => ek env dr)) :=
  PSsw' (pss_cons (ps_asg he hg hs hw h1) hk) fun D σ H ⟨env, F, dr, st, h⟩ => sE st h fun x dr1 v H1 F1 st1 _ r1 k => by
    obtain ⟨env', e1, k2⟩ := post_ofO (post_bind k)
    exact ⟨env, F1, dr1, x, st1, r1.rep, env', e1, fun σ' st2 _ _ => ⟨env', F1, dr1, st2, k2⟩⟩
theorem own_ne {p : Addr} {d : D} {i : Nat} (st : StR (gd X ad) N.F0 N.H0 σ env F H dr) (h : get env i = .own d) : ∃ p, σ[i]? = some (some (.ref p)) ∧ F p = none ∧ N.H0 p = none ∧ p ≠ ad ∧ OwnR (gd X ad) F H p d := by
  have sl := st.slot i
  rw [h] at sl
  exact sl
/-- a slot takes a new object as its own: p was free ahead -/
theorem set_own {i : Nat} {p : Addr} {x : D} {H1 F1 : Hp} {dr1 : List Int} (st : StR (gd X ad) N.F0 N.H0 σ env F H dr) (st1 : StR (gd X ad) N.F0 N.H0 σ env F1 H1 dr1) (hp : H p = none) (hf : F1 p = none) (r : OwnR (gd X ad) F1 H1 p x) (hi : i < env.length) :
    StR (gd X ad) N.F0 N.H0 (σ.set i (some (.ref p))) (env.set i (.own x)) F1 H1 dr1 := by
  refine st1.setO hi hf ?_ (st.po.pne hp) r fun j d' h2 h3 => ?_
  · cases q : N.H0 p with
    | none => rfl
    | some o =>
      rw [st.po.old p o q (st.po.pne hp)] at hp
      cases hp
  · obtain ⟨q, e, f, h0, n, rr⟩ := own_ne (p := p) st h2
    rw [h3] at e
    cases e
    obtain ⟨o, ho⟩ := rr.there
    rw [ho] at hp
    cases hp
theorem own_eq {i : Nat} {r : Res D} {env : Env} {K : Env → List Int → Res Fl} : (r.bind fun d dr => (ofO ((freshD d).bind fun d => setSl env i (.own d)) dr).bind K) = ((r.bind fun d dr => ofO (freshD d) dr).bind fun d dr => (ofO (setSl env i (.own d)) dr).bind K) := by
  cases r with
  | ok d dr => cases d <;> rfl
  | exc _ _ => rfl
  | bad => rfl
theorem s_own {i : Nat} {x : Str} {p2 : Pos} {ea : Env → List Int → Res D} {ek : Env → List Int → Res Fl} (hN : X.N.Nodup) (hi : X.N[i]? = some x) (hx : Loc X.env.scope x) (hf : X.fn x = true ∨ X.env.scope.names.lookup x = some .local) (he : PE X e (tMF (gd X ad) N (fun env dr => (ea env dr).bind fun d dr => ofO (freshD d) dr)))
    (hs : swapsWith e (some (.Name x p2)) pos.line X.env = pure false) (hk : PSs X rest (tS (gd X ad) N ek)) :
    PSs X (.Assign [.Name x p2] e pos :: rest) (tS (gd X ad) N (fun env dr => (ea env dr).bind fun d dr => (ofO ((freshD d).bind fun d => setSl env i (.own d)) dr).bind fun env dr => ek env dr)) :=
  PSsw' (pss_cons (ps_set hN hi hx he hs hf) hk) fun D σ H ⟨env, F, dr, st, h⟩ => by
    dsimp only at h
    rw [own_eq] at h
    refine sF (ea := fun env dr => (ea env dr).bind fun d dr => ofO (freshD d) dr) (R := fun v H1 => tS (gd X ad) N ek D (σ.set i (some v)) H1) st h fun x dr1 p H1 F1 st1 _ hp hf r1 k => ?_
    obtain ⟨env', e1, k2⟩ := post_ofO (post_bind k)
    have e2 : (if i < env.length then some (env.set i (.own x)) else none) = some env' := e1
    split at e2
    · rename_i hl
      cases e2
      exact ⟨_, F1, dr1, set_own st st1 hp hf r1 hl, k2⟩
    · cases e2
/-- a slot forgotten -/
theorem s_wip {i : Nat} {ss : List Stmt} {ek : Env → List Int → Res Fl} (hk : PSs X ss (tS (gd X ad) N ek)) : PSs X ss (tS (gd X ad) N (fun env dr => ek (env.set i .no) dr)) :=
  PSsw' hk fun D σ H ⟨env, F, dr, st, h⟩ => by
    have g1 : ∀ j, get (env.set i .no) j = get env j ∨ get (env.set i .no) j = .no := fun j => by
      rw [get_set]
      split
      · exact .inr rfl
      · exact .inl rfl
    refine ⟨env.set i .no, F, dr, ⟨st.po, by rw [List.length_set]; exact st.len, fun j => ?_, fun j l d e p h1 h2 h3 h4 => ?_⟩, h⟩
    · rcases g1 j with q | q
      · rw [q]; exact st.slot j
      · rw [q]; trivial
    · rcases g1 j with q | q
      · rcases g1 l with q2 | q2
        · rw [q] at h1; rw [q2] at h2
          exact st.apart j l d e p h1 h2 h3 h4
        · rw [q2] at h2; cases h2
      · rw [q] at h1; cases h1
/-- x op= e -/
theorem s_aug {i : Nat} {x : Str} {p2 : Pos} {op : BOp} {ea : Env → List Int → Res D} {ek : Env → List Int → Res Fl} (hN : X.N.Nodup) (hi : X.N[i]? = some x) (hx : Loc X.env.scope x) (hf : X.fn x = true ∨ X.env.scope.names.lookup x = some .local) (he : PE X e (tM (gd X ad) N false ea)) (hk : PSs X rest (tS (gd X ad) N ek)) :
    PSs X (.AugAssign (.Name x p2) (pyOp op) e pos :: rest) (tS (gd X ad) N (fun env dr => (ofO (varS (get env i)) dr).bind fun x dr => (ea env dr).bind fun y dr => (ofO ((augD op x y).bind fun z => setSl env i (.val z)) dr).bind fun env dr => ek env dr)) :=
  PSsw' (pss_cons (ps_aug hN hi hx he (iop_aug op) hf) hk) fun D σ H ⟨env, F, dr, st, h⟩ => by
    obtain ⟨x, e1, h1⟩ := post_ofO (post_bind h)
    cases q : get env i with
    | no => rw [q] at e1; cases e1
    | own d => rw [q] at e1; cases e1
    | val d =>
      rw [q] at e1
      obtain rfl : x = d := (Option.some.inj (show some d = some x from e1)).symm
      have sl := st.slot i
      rw [q] at sl
      obtain ⟨v, e3, r⟩ := sl
      refine ⟨v, e3, ?_⟩
      refine sE (R := fun y H1 => rAug op v y H1 fun z H2 => tS (gd X ad) N ek D (σ.set i (some z)) H2) st h1 fun y dr1 w H1 F1 st1 sb r1 k => ?_
      obtain ⟨env', e4, k2⟩ := post_ofO (post_bind k)
      cases q2 : augD op x y with
      | none => rw [q2] at e4; cases e4
      | some z =>
        obtain ⟨a, b, c, rfl, rfl, rfl⟩ := augD_inv q2
        rw [q2] at e4
        cases (show v = V.int a from r)
        cases rq_int r1
        have e5 : (if i < env.length then some (env.set i (.val (.int c))) else none) = some env' := e4
        split at e5
        · rename_i hl
          cases e5
          exact ⟨a, b, c, rfl, rfl, q2, _, F1, dr1, st1.setV (d := .int c) hl rfl, k2⟩
        · cases e5
theorem whlL_succ {c : Env → List Int → Res Bool} {b : Env → List Int → Res Fl} {n : Nat} {env : Env} {dr : List Int} : whlL c b (n + 1) env dr = (c env dr).bind fun t dr => match t with
    | false => .ok (.nx env) dr
    | true => (b env dr).bind fun f dr => match f with
      | .nx env => whlL c b n env dr
      | .ct env => whlL c b n env dr
      | .bk env => .ok (.nx env) dr
      | .rt d => .ok (.rt d) dr := rfl
theorem s_whl {c : Expr} {body : List Stmt} {fuel : Nat} {ec : Env → List Int → Res Bool} {eb ek : Env → List Int → Res Fl} (hp : PassesOwn (model X.prog X.w) X.A X.env X.xe) (hc : PT X c (tT (gd X ad) N ec)) (hb : PSs X body (tS (gd X ad) N eb)) (hk : PSs X rest (tS (gd X ad) N ek)) :
    PSs X (.While c body [] pos :: rest) (tS (gd X ad) N (fun env dr => (whlL ec eb fuel env dr).bind fun f dr => match f with
      | .nx env => ek env dr
      | f => .ok f dr)) :=
  PSsw' (pss_cons (ps_while hp hc hb) hk) fun D σ H ⟨env, F, dr, st, h⟩ => by
    refine ⟨fun m σ H => ∃ env' F' dr', StR (gd X ad) N.F0 N.H0 σ env' F' H dr' ∧ Sub F F' ∧ ((whlL ec eb m env' dr').bind fun f dr => match f with
      | .nx env => ek env dr
      | f => .ok f dr).post (FlP (gd X ad) N D F') (EXs (gd X ad) N), ⟨fuel, env, F, dr, st, Same.refl _, h⟩, ?_⟩
    rintro m σ' H' ⟨env', F', dr', st', s', h'⟩
    cases m with
    | zero => exact (show False from h').elim
    | succ m =>
      rw [whlL_succ, Res.bind_assoc] at h'
      refine sT (R := fun b H1 => if b = true then ∃ N' : L2.St → Hp → Prop, (∀ σ'' H'', N' σ'' H'' → ∃ m', m' < m + 1 ∧ ∃ env' F' dr', StR (gd X ad) N.F0 N.H0 σ'' env' F' H'' dr' ∧ Sub F F' ∧ ((whlL ec eb m' env' dr').bind fun f dr => match f with
        | .nx env => ek env dr
        | f => .ok f dr).post (FlP (gd X ad) N D F') (EXs (gd X ad) N)) ∧ tS (gd X ad) N eb { { D with nx := tS (gd X ad) N ek D } with nx := N', ct := N', bk := tS (gd X ad) N ek D } σ' H1 else tS (gd X ad) N ek D σ' H1) st' h' fun t dr1 H1 F1 st1 sb k => ?_
      cases t with
      | false =>
        rw [if_neg Bool.false_ne_true]
        exact ⟨env', F1, dr1, st1, k⟩
      | true =>
        rw [if_pos rfl]
        refine ⟨fun σ'' H'' => ∃ env' F' dr', StR (gd X ad) N.F0 N.H0 σ'' env' F' H'' dr' ∧ Sub F F' ∧ ((whlL ec eb m env' dr').bind fun f dr => match f with
          | .nx env => ek env dr
          | f => .ok f dr).post (FlP (gd X ad) N D F') (EXs (gd X ad) N), fun σ'' H'' z => ⟨m, Nat.lt_succ_self _, z⟩, env', F1, dr1, st1, ?_⟩
        have k : (((eb env' dr1).bind fun f dr => match f with
          | .nx env => whlL ec eb m env dr
          | .ct env => whlL ec eb m env dr
          | .bk env => .ok (.nx env) dr
          | .rt d => .ok (.rt d) dr).bind fun f dr => match f with
          | .nx env => ek env dr
          | f => .ok f dr).post (FlP (gd X ad) N D F1) (EXs (gd X ad) N) := k
        rw [Res.bind_assoc] at k
        refine (post_bind k).imp (fun f dr2 q => ?_) fun _ _ z => z
        cases f with
        | nx env5 => exact fun σ5 H5 F5 st5 s5 => ⟨env5, F5, dr2, st5, s'.trans (sb.trans s5), q.imp (fun f dr z => z.up s5 f dr) fun _ _ z => z⟩
        | ct env5 => exact fun σ5 H5 F5 st5 s5 => ⟨env5, F5, dr2, st5, s'.trans (sb.trans s5), q.imp (fun f dr z => z.up s5 f dr) fun _ _ z => z⟩
        | bk env5 => exact fun σ5 H5 F5 st5 s5 => ⟨env5, F5, dr2, st5, (show Res.post (ek env5 dr2) (FlP (gd X ad) N D F1) (EXs (gd X ad) N) from q).imp (fun f dr z => z.up s5 f dr) fun _ _ z => z⟩
        | rt d5 => exact (show FlP (gd X ad) N D F1 (.rt d5) dr2 from q)
/-- a comprehension's list into a plain name, exchanged: known to all, or its own -/
theorem s_setLcV {i : Nat} {y : Str} {py : Pos} {elt tg it : Expr} {ifs : List Expr} {scope : Scope} {own : List (Str × Nat)} {lpos : Pos} {p : Pat} {ei : Env → List Int → Res (List D)} {et : Env → List Int → Res Bool} {ee : Env → List Int → Res D} {ek : Env → List Int → Res Fl}
    (hc : X.calm = true) (hN : X.N.Nodup) (hy : X.N[i]? = some y) (hyl : X.env.scope.names.lookup y = some .local) (hsw : swapsWith (.ListComp elt [⟨tg, it, ifs, 0⟩] scope lpos) (some (.Name y py)) pos.line X.env = pure true)
    (ok : BlkOk X.N X.env.scope scope own) (hown : own.map (·.2) = slots p)
    (hi : PI X tg it (tI (gd X ad) N true ei)) (hg : ∀ (s : Shared) (H : Hp) (C : Addr) (cl : List (Str × Addr)) (fp : List Addr), PG (X.blk s H scope (compEnvC scope cl C X.env) fp) tg (gP (gd X ad) N.blk p))
    (ht : ∀ (s : Shared) (H : Hp) (C : Addr) (cl : List (Str × Addr)) (fp : List Addr), PTs (X.blk s H scope (compEnvC scope cl C X.env) fp) ifs (tT (gd X ad) N.blk et))
    (he : ∀ (s : Shared) (H : Hp) (C : Addr) (cl : List (Str × Addr)) (fp : List Addr), PE (X.blk s H scope (compEnvC scope cl C X.env) fp) elt (tM (gd X ad) N.blk false ee)) (hs : ∀ x, foldedSetIterable it X.env x = pure x) (hk : PSs X rest (tS (gd X ad) N ek)) (o : Bool) :
    PSs X (.Assign [.Name y py] (.ListComp elt [⟨tg, it, ifs, 0⟩] scope lpos) pos :: rest) (tS (gd X ad) N (fun env dr => ((ei env dr).bind fun xs dr => noX ((lcL (lcB p (slots p) et ee env) xs dr).bind fun ys dr => .ok (.lst ys) dr)).bind fun d dr =>
      (ofO (if o then (freshD d).bind fun d => setSl env i (.own d) else asgP (.nm i) d env) dr).bind fun env dr => ek env dr)) :=
  PSsw' (pss_cons (ps_setLc hc hN hy hyl hsw hi ok hg ht he hs) hk) fun D1 σ H ⟨env, F, dr, st, h⟩ => by
    show tLc (tI (gd X ad) N true ei) (gP (gd X ad) N.blk p) (tT (gd X ad) N.blk et) (tM (gd X ad) N.blk false ee) (own.map (·.2)) σ H (fun v H1 => tS (gd X ad) N ek D1 (σ.set i (some v)) H1)
    rw [hown]
    have e0 : ∀ {KK : D → List Int → Res Fl}, (((ei env dr).bind fun xs dr => noX ((lcL (lcB p (slots p) et ee env) xs dr).bind fun ys dr => .ok (D.lst ys) dr)).bind KK) = (((ei env dr).bind fun xs dr => noX ((lcL (lcB p (slots p) et ee env) xs dr).bind fun ys dr => .ok (D.lst ys) dr)).bind fun d dr => match d with
      | D.lst ys => KK (D.lst ys) dr
      | _ => .bad) := by
      intro KK
      cases ei env dr with
      | ok xs dr1 =>
        rw [Res.bind_ok]
        cases lcL (lcB p (slots p) et ee env) xs dr1 <;> rfl
      | exc _ _ => rfl
      | bad => rfl
    dsimp only at h
    rw [e0] at h
    refine lc_imp (sF (ea := fun env dr => (ei env dr).bind fun xs dr => noX ((lcL (lcB p (slots p) et ee env) xs dr).bind fun ys dr => .ok (.lst ys) dr)) st h fun x dr1 p H1 F1 st1 _ hp hf r1 k => ?_)
    cases x <;> try (exact (False.elim k); done)
    rename_i ys
    generalize hx : D.lst ys = x at k r1
    have k : ((ofO (if o then (freshD x).bind fun d => setSl env i (.own d) else asgP (.nm i) x env) dr1).bind fun env dr => ek env dr).post (FlP (gd X ad) N D1 F1) (EXs (gd X ad) N) := by subst hx; exact k
    obtain ⟨env', e1, k2⟩ := post_ofO (post_bind k)
    have e3 : freshD x = some x := by subst hx; rfl
    cases o with
    | true =>
      rw [if_pos rfl, e3] at e1
      have e2 : (if i < env.length then some (env.set i (.own x)) else none) = some env' := e1
      split at e2
      · rename_i hl
        cases e2
        exact ⟨_, F1, dr1, set_own st st1 hp hf r1 hl, k2⟩
      · cases e2
    | false =>
      have e2 : (if i < env.length then some (env.set i (.val x)) else none) = some env' := e1
      split at e2
      · rename_i hl
        cases e2
        obtain ⟨o, ho⟩ := r1.there
        have hh : N.H0 p = none := by
          cases q : N.H0 p with
          | none => rfl
          | some o =>
            rw [st.po.old p o q (st.po.pne hp)] at hp
            cases hp
        have po2 := st1.po.self.frz (p := p) (o := o)
        have a2 : Post (gd X ad) N.F0 N.H0 (upd F1 p o) H1 dr1 := st1.po.frz hh hf (st.po.pne hp) ho
        have st2 : StR (gd X ad) N.F0 N.H0 σ env (upd F1 p o) H1 dr1 := by
          refine ⟨a2, st1.len, fun j => ?_, st1.apart⟩
          have sl := st1.slot j
          cases q : get env j with
          | no => trivial
          | val d =>
            rw [q] at sl
            obtain ⟨v, e5, r5⟩ := sl
            exact ⟨v, e5, Rep.mono (sub_upd hf) _ _ r5⟩
          | own d =>
            obtain ⟨p2, e5, f5, h5, n5, r5⟩ := own_ne (p := p) st q
            rw [q] at sl
            obtain ⟨p3, e6, f6, h6, n6, r6⟩ := sl
            rw [e5] at e6
            cases e6
            have hne : p2 ≠ p := fun z => by
              subst z
              obtain ⟨o', ho'⟩ := r5.there
              rw [ho'] at hp
              cases hp
            exact ⟨p2, e5, by rw [upd_ne hne]; exact f6, h6, n6, r6.mono (sub_upd hf) fun _ z => z⟩
        exact ⟨_, _, dr1, st2.setV hl (by subst hx; exact OwnR.rep r1 (sub_upd hf) fun o' e => by rw [ho] at e; cases e; exact upd_same), k2.imp (fun f dr z => z.up (sub_upd hf) f dr) fun _ _ z => z⟩
      · cases e2
theorem s_if {c : Expr} {a b : List Stmt} {et : Env → List Int → Res Bool} {ea eb ek : Env → List Int → Res Fl} (hc : PT X c (tT (gd X ad) N et)) (ha : PSs X a (tS (gd X ad) N ea)) (hb : PSs X b (tS (gd X ad) N eb)) (hk : PSs X rest (tS (gd X ad) N ek)) :
    PSs X (.If c a b pos :: rest) (tS (gd X ad) N (fun env dr => (et env dr).bind fun t dr => (match t with
    | true => ea env dr
    | false => eb env dr).bind fun f dr => match f with
      | .nx env => ek env dr
      | f => .ok f dr)) :=
  PSsw' (pss_cons (ps_if hc ha hb) hk) fun D σ H ⟨env, F, dr, st, h⟩ => by
    refine sT st h fun t dr1 H1 F1 st1 _ k => ?_
    have fin : ∀ {eb' : Env → List Int → Res Fl}, ((eb' env dr1).bind fun f dr => match f with
      | .nx env => ek env dr
      | f => .ok f dr).post (FlP (gd X ad) N D F1) (EXs (gd X ad) N) → tS (gd X ad) N eb' { D with nx := tS (gd X ad) N ek D } σ H1 := fun {eb'} z =>
      ⟨env, F1, dr1, st1, (post_bind z).imp (fun f dr2 q => by
        cases f with
        | nx env2 => exact fun σ' H' F' st2 s2 => ⟨env2, F', dr2, st2, q.imp (fun f dr z => z.up s2 f dr) fun _ _ z => z⟩
        | rt d => exact q
        | bk env2 => exact q
        | ct env2 => exact q) fun _ _ z => z⟩
    cases t with
    | true =>
      rw [if_pos rfl]
      exact fin k
    | false =>
      rw [if_neg Bool.false_ne_true]
      exact fin k
/-- a loop's turns, then what follows -/
theorem s_for {tg it : Expr} {body : List Stmt} {p : Pat} {ei : Env → List Int → Res (List D)} {eb ek : Env → List Int → Res Fl} (hp : PassesOwn (model X.prog X.w) X.A X.env X.xe) (hc : X.calm = true) (hi : PI X tg it (tI (gd X ad) N false ei)) (hg : PG X tg (gP (gd X ad) N p))
    (hb : PSs X body (tS (gd X ad) N eb)) (hs : ∀ x, foldedSetIterable it X.env x = pure x) (hk : PSs X rest (tS (gd X ad) N ek)) :
    PSs X (.For tg it body [] pos :: rest) (tS (gd X ad) N (fun env dr => (ei env dr).bind fun xs dr => (forL (fun d env dr => (ofO (asgP p d env) dr).bind fun env dr => eb env dr) xs env dr).bind fun f dr => match f with
      | .nx env => ek env dr
      | f => .ok f dr)) :=
  PSsw' (pss_cons (ps_for hp hc hi hg hb hs) hk) fun D σ H ⟨env, F, dr, st, h⟩ => by
    refine ⟨env, F, dr, st, (post_bind h).imp (fun xs dr1 h1 J H1 F1 a itd hl => ?_) fun e dr' z => EXs.ex st e dr' z⟩
    have st1 := st.step a
    have h1 := h1.imp (fun f dr z => z.up a.f f dr) fun _ _ z => z
    refine ⟨fun i m σ' H' => m = xs.length - i ∧ i ≤ xs.length ∧ ∃ env' F' dr', StR (gd X ad) N.F0 N.H0 σ' env' F' H' dr' ∧ Sub F1 F' ∧
      ((forL (fun d env dr => (ofO (asgP p d env) dr).bind fun env dr => eb env dr) (xs.drop i) env' dr').bind fun f dr => match f with
        | .nx env => ek env dr
        | f => .ok f dr).post (FlP (gd X ad) N D F') (EXs (gd X ad) N), ⟨xs.length, by simp, Nat.zero_le _, env, F1, dr1, st1, Same.refl _, by rw [List.drop_zero]; exact h1⟩, ?_⟩
    rintro i m σ' H' ⟨rfl, hi', env', F', dr', st', s', h'⟩
    have hcond : Cond (gd X ad) false F1 H1 F' H' := ⟨s', st'.po.s, fun z => nomatch z⟩
    by_cases hlt : i < xs.length
    · right
      refine ⟨itd.go i F' H' hlt hcond, fun σ2 H2 => ∃ env2 F2 dr2, StR (gd X ad) N.F0 N.H0 σ2 env2 F2 H2 dr2 ∧ Sub F1 F2 ∧
        ((forL (fun d env dr => (ofO (asgP p d env) dr).bind fun env dr => eb env dr) (xs.drop (i + 1)) env2 dr2).bind fun f dr => match f with
          | .nx env => ek env dr
          | f => .ok f dr).post (FlP (gd X ad) N D F2) (EXs (gd X ad) N), fun σ2 H2 w => ⟨xs.length - (i + 1), by omega, rfl, hlt, w⟩, fun x H2 y => ?_⟩
      obtain ⟨d, ed, c2⟩ := itd.yld i F' H' x H2 hlt hcond y
      obtain ⟨F3, po3, rx⟩ : ∃ F3, Post (gd X ad) F' H' F3 H2 dr' ∧ Rep (gd X ad) F3 d x := by
        rcases c2 with ⟨rfl, rx⟩ | ⟨T, o, hT, rfl, rx⟩
        · exact ⟨F', st'.po.self, rx⟩
        · exact ⟨upd F' T o, st'.po.self.alloc hT, rx⟩
      have st3 := st'.step po3
      rw [List.drop_eq_getElem_cons hlt] at h'
      have exd : xs[i] = d := by
        rw [List.getElem?_eq_getElem hlt] at ed
        exact Option.some.inj ed
      rw [exd] at h'
      have h2 := post_bind h'
      have h3 := post_bind (show (((ofO (asgP p d env') dr').bind fun env dr => eb env dr).bind fun f dr => match f with
        | .nx env => forL (fun d env dr => (ofO (asgP p d env) dr).bind fun env dr => eb env dr) (xs.drop (i + 1)) env dr
        | .ct env => forL (fun d env dr => (ofO (asgP p d env) dr).bind fun env dr => eb env dr) (xs.drop (i + 1)) env dr
        | .bk env => .ok (.nx env) dr
        | .rt d => .ok (.rt d) dr).post _ _ from h2)
      obtain ⟨env4, ea, h4⟩ := post_ofO (post_bind h3)
      refine ⟨env', F3, dr', d, st3, rx, env4, ea, fun σ4 st4 _ _ => ⟨env4, F3, dr', st4, h4.imp (fun f dr5 q => ?_) fun _ _ z => z⟩⟩
      cases f with
      | nx env5 =>
        intro σ5 H5 F5 st5 s5
        refine ⟨env5, F5, dr5, st5, s'.trans (po3.f.trans s5), ?_⟩
        have q' : (forL (fun d env dr => (ofO (asgP p d env) dr).bind fun env dr => eb env dr) (xs.drop (i + 1)) env5 dr5).post _ _ := q
        cases e9 : forL (fun d env dr => (ofO (asgP p d env) dr).bind fun env dr => eb env dr) (xs.drop (i + 1)) env5 dr5 with
        | bad => rw [e9] at q'; exact q'.elim
        | exc e dd => rw [e9] at q'; exact q'
        | ok f dd =>
          rw [e9] at q'
          exact (show Res.post _ (FlP (gd X ad) N D F') (EXs (gd X ad) N) from q').imp (fun f dr z => z.up (po3.f.trans s5) f dr) fun _ _ z => z
      | ct env5 =>
        intro σ5 H5 F5 st5 s5
        refine ⟨env5, F5, dr5, st5, s'.trans (po3.f.trans s5), ?_⟩
        have q' : (forL (fun d env dr => (ofO (asgP p d env) dr).bind fun env dr => eb env dr) (xs.drop (i + 1)) env5 dr5).post _ _ := q
        cases e9 : forL (fun d env dr => (ofO (asgP p d env) dr).bind fun env dr => eb env dr) (xs.drop (i + 1)) env5 dr5 with
        | bad => rw [e9] at q'; exact q'.elim
        | exc e dd => rw [e9] at q'; exact q'
        | ok f dd =>
          rw [e9] at q'
          exact (show Res.post _ (FlP (gd X ad) N D F') (EXs (gd X ad) N) from q').imp (fun f dr z => z.up (po3.f.trans s5) f dr) fun _ _ z => z
      | bk env5 =>
        intro σ5 H5 F5 st5 s5
        exact ⟨env5, F5, dr5, st5, (show Res.post (ek env5 dr5) (FlP (gd X ad) N D F') (EXs (gd X ad) N) from q).imp (fun f dr z => z.up (po3.f.trans s5) f dr) fun _ _ z => z⟩
      | rt d5 => exact (show FlP (gd X ad) N D F' (.rt d5) dr5 from q)
    · have e : i = xs.length := by omega
      subst e
      rw [List.drop_length] at h'
      exact .inl ⟨itd.stop F' H' hcond, env', F', dr', st', h'⟩
end
end Cr
/-! A text of the core language held against the program's text. -/
namespace Cr
open PySem PySem.Spec PyProof.Rows L2

def vName : Expr → Option (Str × Pos)
  | .Name a b => some (a, b)
  | _ => none
theorem vName_inv {x : Expr} {a : Str} {b : Pos} (h : vName x = some (a, b)) : x = .Name a b := by
  cases x <;> first | (cases h; rfl) | cases h
def vConstant : Expr → Option (Const × Nat × Pos)
  | .Constant a b c => some (a, b, c)
  | _ => none
theorem vConstant_inv {x : Expr} {a : Const} {b : Nat} {c : Pos} (h : vConstant x = some (a, b, c)) : x = .Constant a b c := by
  cases x <;> first | (cases h; rfl) | cases h
def vBinOp : Expr → Option (Expr × Operator × Expr × Pos)
  | .BinOp a b c d => some (a, b, c, d)
  | _ => none
theorem vBinOp_inv {x : Expr} {a : Expr} {b : Operator} {c : Expr} {d : Pos} (h : vBinOp x = some (a, b, c, d)) : x = .BinOp a b c d := by
  cases x <;> first | (cases h; rfl) | cases h
def vUnaryOp : Expr → Option (UnaryOp × Expr × Pos)
  | .UnaryOp a b c => some (a, b, c)
  | _ => none
theorem vUnaryOp_inv {x : Expr} {a : UnaryOp} {b : Expr} {c : Pos} (h : vUnaryOp x = some (a, b, c)) : x = .UnaryOp a b c := by
  cases x <;> first | (cases h; rfl) | cases h
def vIfExp : Expr → Option (Expr × Expr × Expr × Pos)
  | .IfExp a b c d => some (a, b, c, d)
  | _ => none
theorem vIfExp_inv {x : Expr} {a : Expr} {b : Expr} {c : Expr} {d : Pos} (h : vIfExp x = some (a, b, c, d)) : x = .IfExp a b c d := by
  cases x <;> first | (cases h; rfl) | cases h
def vCompare : Expr → Option (Expr × List CmpOp × List Expr × Pos)
  | .Compare a b c d => some (a, b, c, d)
  | _ => none
theorem vCompare_inv {x : Expr} {a : Expr} {b : List CmpOp} {c : List Expr} {d : Pos} (h : vCompare x = some (a, b, c, d)) : x = .Compare a b c d := by
  cases x <;> first | (cases h; rfl) | cases h
def vCall : Expr → Option (Expr × List Expr × List Keyword × Pos)
  | .Call a b c d => some (a, b, c, d)
  | _ => none
theorem vCall_inv {x : Expr} {a : Expr} {b : List Expr} {c : List Keyword} {d : Pos} (h : vCall x = some (a, b, c, d)) : x = .Call a b c d := by
  cases x <;> first | (cases h; rfl) | cases h
def vAttribute : Expr → Option (Expr × Str × Pos)
  | .Attribute a b c => some (a, b, c)
  | _ => none
theorem vAttribute_inv {x : Expr} {a : Expr} {b : Str} {c : Pos} (h : vAttribute x = some (a, b, c)) : x = .Attribute a b c := by
  cases x <;> first | (cases h; rfl) | cases h
def vSubscript : Expr → Option (Expr × Expr × Pos)
  | .Subscript a b c => some (a, b, c)
  | _ => none
theorem vSubscript_inv {x : Expr} {a : Expr} {b : Expr} {c : Pos} (h : vSubscript x = some (a, b, c)) : x = .Subscript a b c := by
  cases x <;> first | (cases h; rfl) | cases h
def vSlice : Expr → Option (Option Expr × Option Expr × Option Expr × Pos)
  | .Slice a b c d => some (a, b, c, d)
  | _ => none
theorem vSlice_inv {x : Expr} {a : Option Expr} {b : Option Expr} {c : Option Expr} {d : Pos} (h : vSlice x = some (a, b, c, d)) : x = .Slice a b c d := by
  cases x <;> first | (cases h; rfl) | cases h
def vList : Expr → Option (List Expr × Pos)
  | .List a b => some (a, b)
  | _ => none
theorem vList_inv {x : Expr} {a : List Expr} {b : Pos} (h : vList x = some (a, b)) : x = .List a b := by
  cases x <;> first | (cases h; rfl) | cases h
def vStarred : Expr → Option (Expr × Pos)
  | .Starred a b => some (a, b)
  | _ => none
theorem vStarred_inv {x : Expr} {a : Expr} {b : Pos} (h : vStarred x = some (a, b)) : x = .Starred a b := by
  cases x <;> first | (cases h; rfl) | cases h
def vTuple : Expr → Option (List Expr × Nat × Pos)
  | .Tuple a b c => some (a, b, c)
  | _ => none
theorem vTuple_inv {x : Expr} {a : List Expr} {b : Nat} {c : Pos} (h : vTuple x = some (a, b, c)) : x = .Tuple a b c := by
  cases x <;> first | (cases h; rfl) | cases h
def vBoolOp : Expr → Option (BoolOp × List Expr × Pos)
  | .BoolOp a b c => some (a, b, c)
  | _ => none
theorem vBoolOp_inv {x : Expr} {a : BoolOp} {b : List Expr} {c : Pos} (h : vBoolOp x = some (a, b, c)) : x = .BoolOp a b c := by
  cases x <;> first | (cases h; rfl) | cases h
def vListComp : Expr → Option (Expr × List Comprehension × Scope × Pos)
  | .ListComp a b c d => some (a, b, c, d)
  | _ => none
theorem vListComp_inv {x : Expr} {a : Expr} {b : List Comprehension} {c : Scope} {d : Pos} (h : vListComp x = some (a, b, c, d)) : x = .ListComp a b c d := by
  cases x <;> first | (cases h; rfl) | cases h
def vDict : Expr → Option (List (Option Expr) × List Expr × Pos)
  | .Dict a b c => some (a, b, c)
  | _ => none
theorem vDict_inv {x : Expr} {a : List (Option Expr)} {b : List Expr} {c : Pos} (h : vDict x = some (a, b, c)) : x = .Dict a b c := by
  cases x <;> first | (cases h; rfl) | cases h
def wReturn : Stmt → Option (Option Expr × Pos)
  | .Return a b => some (a, b)
  | _ => none
theorem wReturn_inv {x : Stmt} {a : Option Expr} {b : Pos} (h : wReturn x = some (a, b)) : x = .Return a b := by
  cases x <;> first | (cases h; rfl) | cases h
def wExpr : Stmt → Option (Expr × Pos)
  | .Expr a b => some (a, b)
  | _ => none
theorem wExpr_inv {x : Stmt} {a : Expr} {b : Pos} (h : wExpr x = some (a, b)) : x = .Expr a b := by
  cases x <;> first | (cases h; rfl) | cases h
def wAssign : Stmt → Option (List Expr × Expr × Pos)
  | .Assign a b c => some (a, b, c)
  | _ => none
theorem wAssign_inv {x : Stmt} {a : List Expr} {b : Expr} {c : Pos} (h : wAssign x = some (a, b, c)) : x = .Assign a b c := by
  cases x <;> first | (cases h; rfl) | cases h
def wIf : Stmt → Option (Expr × List Stmt × List Stmt × Pos)
  | .If a b c d => some (a, b, c, d)
  | _ => none
theorem wIf_inv {x : Stmt} {a : Expr} {b : List Stmt} {c : List Stmt} {d : Pos} (h : wIf x = some (a, b, c, d)) : x = .If a b c d := by
  cases x <;> first | (cases h; rfl) | cases h
def wFor : Stmt → Option (Expr × Expr × List Stmt × List Stmt × Pos)
  | .For a b c d e => some (a, b, c, d, e)
  | _ => none
theorem wFor_inv {x : Stmt} {a : Expr} {b : Expr} {c : List Stmt} {d : List Stmt} {e : Pos} (h : wFor x = some (a, b, c, d, e)) : x = .For a b c d e := by
  cases x <;> first | (cases h; rfl) | cases h
def wWhile : Stmt → Option (Expr × List Stmt × List Stmt × Pos)
  | .While a b c d => some (a, b, c, d)
  | _ => none
theorem wWhile_inv {x : Stmt} {a : Expr} {b : List Stmt} {c : List Stmt} {d : Pos} (h : wWhile x = some (a, b, c, d)) : x = .While a b c d := by
  cases x <;> first | (cases h; rfl) | cases h
def wRaise : Stmt → Option (Option Expr × Option Expr × Pos)
  | .Raise a b c => some (a, b, c)
  | _ => none
theorem wRaise_inv {x : Stmt} {a : Option Expr} {b : Option Expr} {c : Pos} (h : wRaise x = some (a, b, c)) : x = .Raise a b c := by
  cases x <;> first | (cases h; rfl) | cases h
def wTry : Stmt → Option (List Stmt × List ExceptHandler × List Stmt × List Stmt × Pos)
  | .Try a b c d e => some (a, b, c, d, e)
  | _ => none
theorem wTry_inv {x : Stmt} {a : List Stmt} {b : List ExceptHandler} {c : List Stmt} {d : List Stmt} {e : Pos} (h : wTry x = some (a, b, c, d, e)) : x = .Try a b c d e := by
  cases x <;> first | (cases h; rfl) | cases h
def wAugAssign : Stmt → Option (Expr × Operator × Expr × Pos)
  | .AugAssign a b c d => some (a, b, c, d)
  | _ => none
theorem wAugAssign_inv {x : Stmt} {a : Expr} {b : Operator} {c : Expr} {d : Pos} (h : wAugAssign x = some (a, b, c, d)) : x = .AugAssign a b c d := by
  cases x <;> first | (cases h; rfl) | cases h
/-- what is known of where a text stands -/
structure Ct where
  N : List Str
  sc : Scope
  raw : Option Scope
  fns : List (Str × Nat)
  cons : List Str
  bl : List Str
  exc : List Str
  tcl : List Str
  flg : List Str

def visB (sc : Scope) (x : Str) : Bool := match sc.names.lookup x with
  | some .local => true
  | some .cell => true
  | some .free => true
  | _ => false
def locB (sc : Scope) (x : Str) : Bool := match sc.names.lookup x with
  | some .local => true
  | some .cell => true
  | _ => false
def fnB (C : Ct) (x : Str) : Bool := match C.raw with
  | none => true
  | some s => decide (s.names.lookup x = some .cell) || decide (C.sc.names.lookup x = some .local)
def gloB (C : Ct) (x : Str) : Bool := decide (C.sc.names.lookup x = some .globalImplicit) && !(x == ("__debug__" : Str)) && !(x == ("__classdict__" : Str))
def bltB (C : Ct) (x : Str) : Bool := gloB C x && C.bl.contains x
def isStar : Expr → Bool
  | .Starred .. => true
  | _ => false
def isSet : Expr → Bool
  | .Set .. => true
  | _ => false
def isSlice : Expr → Bool
  | .Slice .. => true
  | _ => false
def isComp : Expr → Bool
  | .ListComp .. => true
  | .SetComp .. => true
  | .DictComp .. => true
  | _ => false
def isRow : Expr → Bool
  | .Tuple .. => true
  | .List .. => true
  | _ => false
def isBare : Expr → Bool
  | .UnaryOp .Not _ _ => false
  | .BoolOp .. => false
  | .IfExp .. => false
  | .Compare .. => false
  | _ => true
def isSup : Expr → Bool
  | .Call (.Name _ _) [] [] _ => true
  | _ => false
def isVar (i : Nat) (C : Ct) (e : Expr) : Bool := match vName e with
  | some (x, _) => decide (C.N[i]? = some x) && visB C.sc x && !(x == ("__debug__" : Str)) && !(x == ("__classdict__" : Str))
  | none => false
def ownOf (C : Ct) (p : Pat) : List (Str × Nat) := (slots p).map fun i => (C.N.getD i "", i)
def blkB (C : Ct) (s : Scope) (own : List (Str × Nat)) : Bool := decide (s.kind = .function) && s.names.all (fun y => decide (s.names.lookup y.1 = some y.2)) && own.all (fun p => decide (C.N[p.2]? = some p.1)) &&
  s.names.all (fun y => !decide (y.2 = .free) || decide (C.sc.names.lookup y.1 = some .cell) || decide (C.sc.names.lookup y.1 = some .free)) &&
  s.names.all (fun y => !(decide (y.2 = .local) || decide (y.2 = .cell)) || decide (y.1 ∈ own.map (·.1)) || !decide (y.1 ∈ C.N))
def Ct.blk (C : Ct) (s : Scope) : Ct := { C with sc := relS s C.sc, raw := some s }
def isNil : CE → Bool
  | .nil => true
  | _ => false
def lenC : CE → Option Nat
  | .nil => some 0
  | .cons _ es => (lenC es).map (· + 1)
  | _ => none
mutual
def ckP : Pat → Ct → Expr → Bool
  | .nm i, C, e => match vName e with
    | some (x, _) => decide (C.N[i]? = some x) && locB C.sc x && fnB C x
    | none => false
  | .nil, _, _ => false
  | .cons _ _, _, _ => false
  | .tp ps, C, e => match vTuple e with
    | some (es, _, _) => patRow ps && decide (es.length = patLen ps) && es.all (fun e => !isStar e) && ckPs ps C es
    | none => false
def ckPs : Pat → Ct → List Expr → Bool
  | .nil, _, es => es.isEmpty
  | .cons p ps, C, es => match es with
    | e :: es => !isStar e && ckP p C e && ckPs ps C es
    | [] => false
  | _, _, _ => false
end
mutual
def ckE : CE → Ct → Expr → Bool
  | .var i, C, e => isVar i C e
  | .non, C, e => match vConstant e with
    | some (.none, _, _) => true
    | _ => false
  | .bl b, C, e => match vConstant e with
    | some (.bool c, _, _) => decide (b = c)
    | _ => false
  | .int b, C, e => match vConstant e with
    | some (.int c, _, _) => decide (b = c)
    | _ => false
  | .str b, C, e => match vConstant e with
    | some (.str c, _, _) => decide (b = c)
    | _ => false
  | .glo x, C, e => match vName e with
    | some (y, _) => decide (x = y) && gloB C x && C.cons.contains x
    | none => false
  | .fnv x, C, e => match vName e with
    | some (y, _) => decide (x = y) && gloB C x && (C.fns.lookup x).isSome
    | none => false
  | .callv f es, C, e => match vCall e with
    | some (n, l :: ls, [], _) => (vSubscript n).isSome && ckE f C n && ckL es C (l :: ls) && (l :: ls).all (fun e => !isStar e)
    | _ => false
  | .bin op a b, C, e => match vBinOp e with
    | some (l, o, r, _) => decide (o = pyOp op) && ckE a C l && ckE b C r
    | none => false
  | .neg a, C, e => match vUnaryOp e with
    | some (.USub, l, _) => ckE a C l
    | _ => false
  | .not a, C, e => match vUnaryOp e with
    | some (.Not, l, _) => ckE a C l
    | _ => false
  | .cmp op a b, C, e => match vCompare e with
    | some (l, [o], [r], _) => decide (o = pyCm op) && !isSet r && ckE a C l && ckE b C r
    | _ => false
  | .cmp2 o1 o2 a b c, C, e => match vCompare e with
    | some (l, [o, o'], [r, s], _) => decide (o = pyCm o1) && decide (o' = pyCm o2) && !isSet s && ckE a C l && ckE b C r && ckE c C s
    | _ => false
  | .isN a, C, e => match vCompare e with
    | some (l, [.Is], [r], _) => match vConstant r with
      | some (.none, _, _) => ckE a C l
      | _ => false
    | _ => false
  | .notN a, C, e => match vCompare e with
    | some (l, [.IsNot], [r], _) => match vConstant r with
      | some (.none, _, _) => ckE a C l
      | _ => false
    | _ => false
  | .and es, C, e => match vBoolOp e with
    | some (.And, ls, _) => ckAO es C ls
    | _ => false
  | .or es, C, e => match vBoolOp e with
    | some (.Or, ls, _) => ckAO es C ls
    | _ => false
  | .ife c a b, C, e => match vIfExp e with
    | some (t, l, r, _) => ckT c C t && ckE a C l && ckE b C r
    | none => false
  | .tup es, C, e => match vTuple e with
    | some (ls, _, _) => ckL es C ls
    | none => false
  | .lst es, C, e => match vList e with
    | some (ls, _) => ckL es C ls
    | none => false
  | .dicE _, C, e => match vDict e with
    | some ([], [], _) => true
    | _ => false
  | .call f es, C, e => match vCall e with
    | some (n, l :: ls, [], _) => (match vName n with
      | some (x, _) => decide (x = f) && gloB C x && decide (C.fns.lookup x = some (ls.length + 1)) && ckL es C (l :: ls) && decide (lenC es = some (ls.length + 1)) && (l :: ls).all (fun e => !isStar e)
      | none => false)
    | _ => false
  | .blt f es, C, e => match vCall e with
    | some (n, l :: ls, [], _) => (match vName n with
      | some (x, _) => decide (x = biNm f) && bltB C x && ckLp es C (l :: ls) && (l :: ls).all (fun e => !isStar e)
      | none => false)
    | _ => false
  | .isi a t, C, e => match vCall e with
    | some (n, [l, r], [], _) => (match vName n, vName r with
      | some (x, _), some (y, _) => decide (x = ("isinstance" : Str)) && decide (y = (tyNm t : Str)) && bltB C x && bltB C y && !isStar l && ckE a C l
      | _, _ => false)
    | _ => false
  | .meth m o es, C, e => match vCall e with
    | some (n, l :: ls, [], pos) => (match vAttribute n with
      | some (r, x, apos) => decide (x = miNm m) && miOk m && (apos.endLine == pos.line) && !isSup r && decide (ls.length < 25) && (l :: ls).all (fun e => !isStar e) && ckE o C r && ckL es C (l :: ls)
      | none => false)
    | _ => false
  | .ix a i, C, e => match vSubscript e with
    | some (l, r, _) => !isSlice r && ckE a C l && ckE i C r
    | none => false
  | .sl a lo hi, C, e => match vSubscript e with
    | some (l, r, _) => (match vSlice r with
      | some (x, y, none, _) => ckE a C l && ckO lo C x && ckO hi C y
      | _ => false)
    | none => false
  | .rev a, C, e => match vSubscript e with
    | some (l, r, _) => (match vSlice r with
      | some (none, none, some st, _) => (match vUnaryOp st with
        | some (.USub, o, _) => (match vConstant o with
          | some (.int 1, _, _) => ckE a C l
          | _ => false)
        | _ => false)
      | _ => false)
    | none => false
  | .lc p it t x, C, e => match vListComp e with
    | some (elt, [⟨tg, iter, ifs, 0⟩], s, _) => blkB C s (ownOf C p) && !isSet iter && ckI it C tg iter && ckP p (C.blk s) tg && ckTs t (C.blk s) ifs && ckE x (C.blk s) elt
    | _ => false
  | .dpop i, C, e => match vCall e with
    | some (n, [], [], pos) => (match vAttribute n with
      | some (r, x, apos) => decide (x = ("pop" : Str)) && (apos.endLine == pos.line) && isVar i C r
      | none => false)
    | _ => false
  | .dlen i, C, e => match vCall e with
    | some (n, [l], [], _) => (match vName n with
      | some (x, _) => decide (x = ("len" : Str)) && bltB C x && isVar i C l
      | none => false)
    | _ => false
  | .lrev a, C, e => match vCall e with
    | some (n, [c], [], _) => (match vName n, vCall c with
      | some (x, _), some (m, [l], [], _) => (match vName m with
        | some (y, _) => decide (x = ("list" : Str)) && decide (y = ("reversed" : Str)) && bltB C x && bltB C y && !isStar l && ckE a C l
        | none => false)
      | _, _ => false)
    | _ => false
  | .dead, _, _ => true
  | _, _, _ => false
def ckT : CE → Ct → Expr → Bool
  | .not a, C, e => match vUnaryOp e with
    | some (.Not, l, _) => ckT a C l
    | _ => false
  | .and es, C, e => match vBoolOp e with
    | some (.And, ls, _) => ckTB es C ls
    | _ => false
  | .or es, C, e => match vBoolOp e with
    | some (.Or, ls, _) => ckTB es C ls
    | _ => false
  | .cmp op a b, C, e => match vCompare e with
    | some (l, [o], [r], _) => decide (o = pyCm op) && !isSet r && ckE a C l && ckE b C r
    | _ => false
  | .cmp2 o1 o2 a b c, C, e => match vCompare e with
    | some (l, [o, o'], [r, s], _) => decide (o = pyCm o1) && decide (o' = pyCm o2) && !isSet s && ckE a C l && ckE b C r && ckE c C s
    | _ => false
  | .isN a, C, e => match vCompare e with
    | some (l, [.Is], [r], _) => match vConstant r with
      | some (.none, _, _) => ckE a C l
      | _ => false
    | _ => false
  | .notN a, C, e => match vCompare e with
    | some (l, [.IsNot], [r], _) => match vConstant r with
      | some (.none, _, _) => ckE a C l
      | _ => false
    | _ => false
  | .call f es, C, e => match vCall e with
    | some (n, l :: ls, [], _) => (match vName n with
      | some (x, _) => decide (x = f) && gloB C x && decide (C.fns.lookup x = some (ls.length + 1)) && ckL es C (l :: ls) && decide (lenC es = some (ls.length + 1)) && (l :: ls).all (fun e => !isStar e)
      | none => false)
    | _ => false
  | .blt f es, C, e => match vCall e with
    | some (n, l :: ls, [], _) => (match vName n with
      | some (x, _) => decide (x = biNm f) && bltB C x && ckLp es C (l :: ls) && (l :: ls).all (fun e => !isStar e)
      | none => false)
    | _ => false
  | .isi a t, C, e => match vCall e with
    | some (n, [l, r], [], _) => (match vName n, vName r with
      | some (x, _), some (y, _) => decide (x = ("isinstance" : Str)) && decide (y = (tyNm t : Str)) && bltB C x && bltB C y && !isStar l && ckE a C l
      | _, _ => false)
    | _ => false
  | .var i, C, e => isVar i C e
  | .ix a i, C, e => match vSubscript e with
    | some (l, r, _) => !isSlice r && ckE a C l && ckE i C r
    | none => false
  | .dead, _, _ => true
  | _, _, _ => false
def ckTs : CE → Ct → List Expr → Bool
  | .nil, _, es => es.isEmpty
  | .cons c cs, C, es => (match es with
    | [e] => isNil cs && ckT c C e
    | _ => false)
  | _, _, _ => false
/-- and, or of values -/
def ckAO : CE → Ct → List Expr → Bool
  | .cons c cs, C, es => (match es with
    | [e] => isNil cs && ckE c C e
    | e :: r :: rs => !isNil cs && ckE c C e && ckAO cs C (r :: rs)
    | _ => false)
  | _, _, _ => false
def ckTB : CE → Ct → List Expr → Bool
  | .cons c cs, C, es => (match es with
    | [e] => isNil cs && ckT c C e
    | e :: r :: rs => !isNil cs && ckT c C e && ckTB cs C (r :: rs)
    | _ => false)
  | _, _, _ => false
def ckL : CE → Ct → List Expr → Bool
  | .nil, _, es => es.isEmpty
  | .cons c cs, C, es => (match es with
    | e :: es => !isStar e && ckE c C e && ckL cs C es
    | [] => false)
  | .scons c cs, C, es => (match es with
    | e :: es => (match vStarred e with
      | some (l, _) => ckE c C l && ckL cs C es
      | none => false)
    | [] => false)
  | _, _, _ => false
def ckLp : CE → Ct → List Expr → Bool
  | .nil, _, es => es.isEmpty
  | .cons c cs, C, es => (match es with
    | e :: es => !isStar e && ckE c C e && ckLp cs C es
    | [] => false)
  | _, _, _ => false
def ckO : CE → Ct → Option Expr → Bool
  | .nil, _, e => e.isNone
  | .cons c cs, C, e => (match e with
    | some e => isNil cs && ckE c C e
    | none => false)
  | _, _, _ => false
def ckI : CE → Ct → Expr → Expr → Bool
  | .rng es, C, _, e => match vCall e with
    | some (n, ls, [], _) => (match vName n with
      | some (x, _) => decide (x = ("range" : Str)) && bltB C x && ls.all (fun e => !isStar e) && (decide (ls.length = 1) || decide (ls.length = 2) || decide (ls.length = 3)) && decide (lenC es = some ls.length) && ckLp es C ls
      | none => false)
    | _ => false
  | .enum a, C, tg, e => match vCall e with
    | some (n, [l], [], _) => (match vName n with
      | some (x, _) => decide (x = ("enumerate" : Str)) && bltB C x && !isStar l && (vTuple tg).isSome && ckE a C l
      | none => false)
    | _ => false
  | .zip a b, C, tg, e => match vCall e with
    | some (n, [l, r], [], _) => (match vName n with
      | some (x, _) => decide (x = ("zip" : Str)) && bltB C x && !isStar l && !isStar r && (vTuple tg).isSome && ckE a C l && ckE b C r
      | none => false)
    | _ => false
  | .items a, C, tg, e => match vCall e with
    | some (n, [], [], pos) => (match vAttribute n with
      | some (r, x, apos) => decide (x = ("items" : Str)) && (apos.endLine == pos.line) && !isSup r && (vTuple tg).isSome && ckE a C r
      | none => false)
    | _ => false
  | .vals a, C, _, e => match vCall e with
    | some (n, [], [], pos) => (match vAttribute n with
      | some (r, x, apos) => decide (x = ("values" : Str)) && (apos.endLine == pos.line) && !isSup r && ckE a C r
      | none => false)
    | _ => false
  | .keys a, C, _, e => ckE a C e
  | .cons c cs, C, _, e => isNil cs && ckE c C e
  | .dead, _, _, _ => true
  | _, _, _, _ => false
end
end Cr
/-! A held text does what the core language says: expressions. -/
namespace Cr
open PySem PySem.Spec PyProof.Rows L2

structure XF (X : Cx) (ad : Option Addr) (N : En) (G : Cfg) (k : Nat) (C : Ct) : Prop where
  calm : X.calm = true
  nd : X.N.Nodup
  eN : X.N = C.N
  sc : X.env.scope = C.sc
  room : Room k X.A
  fns : ∀ x n, C.fns.lookup x = some n → ∃ fn, G.fns x = some fn ∧ FnG X k x n fn
  arOk : ∀ x n, G.ar x = some n → C.fns.lookup x = some n
  mgb : ∀ x, C.bl.contains x = true → X.mg x = none
  cons : ∀ x, C.cons.contains x = true → ∃ d v u, G.cons x = some d ∧ X.mg x = some u ∧ RelV v u ∧ ∀ F, Rep (gd X ad) F d v
  tk : ∀ σ, PassesAt (L2N.CX X.prog X.w) X σ (WE N.W σ)
  top : C.raw = none → ∀ x, X.fn x = true
  blk : ∀ s, C.raw = some s → X.fn = fun x => s.names.lookup x == some .cell
section
variable {X : Cx} {ad : Option Addr} {N : En} {G : Cfg} {k : Nat} {C : Ct}
theorem XF.hu (xf : XF X ad N G k C) : X.A.units + 65 < cLine := by have := xf.room.un; omega
theorem XF.hu6 (xf : XF X ad N G k C) : X.A.units + 66 < cLine := by have := xf.room.un; omega
theorem XF.far (xf : XF X ad N G k C) : ∀ x n, G.ar x = some n → ∃ fn, G.fns x = some fn ∧ FnG X k x n fn := fun x n h => xf.fns x n (xf.arOk x n h)
theorem XF.inBlk (xf : XF X ad N G k C) (s : Shared) (H : Hp) (scope : Scope) (A : Addr) (cl : List (Str × Addr)) (fp : List Addr) : XF (X.blk s H scope (compEnvC scope cl A X.env) fp) ad N.blk G k (C.blk scope) where
  calm := xf.calm
  nd := xf.nd
  eN := xf.eN
  sc := by show relS scope X.env.scope = relS scope C.sc; rw [xf.sc]
  room := xf.room
  fns := fun x n h => by
    obtain ⟨fn, e, g⟩ := xf.fns x n h
    exact ⟨fn, e, ⟨g.ex⟩⟩
  arOk := xf.arOk
  mgb := xf.mgb
  cons := xf.cons
  tk := fun σ pins H s e s' I h => by
    obtain ⟨_, _, _, _, _, _, _, _, _, _, _, _, z⟩ := h
    exact z.elim
  top := fun h => nomatch h
  blk := fun s h => by
    cases (show some scope = some s from h)
    rfl
theorem gl_of (xf : XF X ad N G k C) {x : Str} (h : gloB C x = true) : Gl X x ∧ (x == ("__debug__" : Str)) = false ∧ (x == ("__classdict__" : Str)) = false := by
  unfold gloB at h
  rw [Bool.and_eq_true, Bool.and_eq_true] at h
  refine ⟨?_, by simpa using h.1.2, by simpa using h.2⟩
  show X.env.scope.names.lookup x = _
  rw [xf.sc]
  exact of_decide_eq_true h.1.1
theorem blt_of (xf : XF X ad N G k C) {x : Str} (h : bltB C x = true) : Gl X x ∧ X.mg x = none := by
  unfold bltB at h
  rw [Bool.and_eq_true] at h
  exact ⟨(gl_of xf h.1).1, xf.mgb x h.2⟩
theorem vis_of {sc : Scope} {x : Str} (h : visB sc x = true) : Vis sc x := by
  unfold visB at h
  unfold Vis
  split at h <;> first | (cases h; done) | simp [*]
theorem loc_of {sc : Scope} {x : Str} (h : locB sc x = true) : L2.Loc sc x := by
  unfold locB at h
  unfold L2.Loc
  split at h <;> first | (cases h; done) | simp [*]
theorem pvar_of (xf : XF X ad N G k C) {i : Nat} {e : Expr} (h : isVar i C e = true) : ∃ x p, e = .Name x p ∧ PE X e (tVar i) := by
  unfold isVar at h
  cases q : vName e with
  | none => rw [q] at h; cases h
  | some t =>
    obtain ⟨x, p⟩ := t
    rw [q] at h
    have := vName_inv q
    subst this
    simp only [Bool.and_eq_true, decide_eq_true_eq, Bool.not_eq_true'] at h
    exact ⟨x, p, rfl, pe_var (by rw [xf.eN]; exact h.1.1.1) (by rw [xf.sc]; exact vis_of h.1.1.2) h.1.2 h.2⟩
theorem fn_ok (xf : XF X ad N G k C) {x : Str} (h : fnB C x = true) : X.fn x = true ∨ X.env.scope.names.lookup x = some .local := by
  unfold fnB at h
  split at h
  · rename_i q
    exact .inl (xf.top q x)
  · rename_i s q
    rw [Bool.or_eq_true] at h
    rcases h with h | h
    · left
      rw [xf.blk s q]
      simpa using h
    · right
      rw [xf.sc]
      exact of_decide_eq_true h
/-! ### side conditions by shape -/
theorem star_cons {env : PySem.Env} {e : Expr} {es : List Expr} (h : isStar e = false) : starEach (e :: es) env = (false, eval e env) :: starEach es env := by
  cases e <;> first | rfl | cases h
theorem star_any {env : PySem.Env} {pos : Pos} : ∀ {es : List Expr}, es.all (fun e => !isStar e) = true → (backTo pos (starEach es env)).any (·.1) = false
  | [], _ => rfl
  | e :: es, h => by
    rw [List.all_cons, Bool.and_eq_true] at h
    rw [star_cons (by simpa using h.1)]
    show (false || _) = false
    rw [Bool.false_or]
    exact star_any h.2
theorem star_all {env : PySem.Env} {pos : Pos} : ∀ {es : List Expr}, es.all (fun e => !isStar e) = true → (backTo pos (starEach es env)).all (fun x => !x.1) = true
  | [], _ => rfl
  | e :: es, h => by
    rw [List.all_cons, Bool.and_eq_true] at h
    rw [star_cons (by simpa using h.1)]
    show (true && _) = true
    rw [Bool.true_and]
    exact star_all h.2
theorem set_marks {op : CmpOp} {e : Expr} (h : isSet e = false) : behindInMarks op e = false := by
  cases e <;> first | rfl | cases h
theorem set_fold {env : PySem.Env} {e : Expr} (h : isSet e = false) (x : Value) : foldedSetIterable e env x = pure x := by
  cases e <;> first | rfl | cases h
theorem plainIx {e : Expr} (h : isSlice e = false) : PlainIx e := by
  cases e <;> first | (intro o i; rfl) | cases h
theorem noSup {env : PySem.Env} {e : Expr} {a : Str} {w : Sem Value} (h : isSup e = false) : attributeBase e a env w = w := by
  unfold attributeBase
  split
  · cases h
  · rfl
theorem bare {env : PySem.Env} {e : Expr} (h : isBare e = true) (whole : Sem Value) : isTrue e env whole = (do let v ← whole; standAt e.pos; holding [v] (truthy v)) := by
  cases e <;> first | rfl | (cases h; done) | skip
  rename_i op x p
  cases op <;> first | rfl | cases h
theorem blk_of (xf : XF X ad N G k C) {s : Scope} {own : List (Str × Nat)} (h : blkB C s own = true) : BlkOk X.N X.env.scope s own := by
  unfold blkB at h
  simp only [Bool.and_eq_true, decide_eq_true_eq, List.all_eq_true, Bool.or_eq_true, Bool.not_eq_true', decide_eq_false_iff_not, Bool.or_eq_false_iff] at h
  obtain ⟨⟨⟨⟨h1, h2⟩, h3⟩, h4⟩, h5⟩ := h
  refine ⟨h1, fun y hy => h2 y hy, fun p hp => by rw [xf.eN]; exact h3 p hp, fun y hy e => ?_, fun y hy e => ?_⟩
  · rw [xf.sc]
    rcases h4 y hy with (z | z) | z
    · exact absurd e z
    · exact .inl z
    · exact .inr z
  · rw [xf.eN]
    rcases h5 y hy with (z | z) | z
    · rcases e with e | e
      · exact absurd e z.1
      · exact absurd e z.2
    · exact .inl z
    · exact .inr z
theorem ownOf_snd (C : Ct) (p : Pat) : (ownOf C p).map (·.2) = slots p := by
  unfold ownOf
  rw [List.map_map]
  exact List.map_id _
theorem evL_len : ∀ {es : CE} {n : Nat} {env : Env} {dr : List Int} {ds : List D} {dr' : List Int}, lenC es = some n → evL G es env dr = .ok ds dr' → ds.length = n
  | .nil, n, env, dr, ds, dr', h, e => by
    cases (show some 0 = some n from h)
    cases (show Res.ok [] dr = .ok ds dr' from e)
    rfl
  | .cons c es, n, env, dr, ds, dr', h, e => by
    have h' : (lenC es).map (· + 1) = some n := h
    obtain ⟨d, dr1, e1, e2⟩ := bind_ok (show ((evE G c false env dr).bind fun d dr => (evL G es env dr).bind fun ds dr => .ok (d :: ds) dr) = .ok ds dr' from e)
    obtain ⟨ds2, dr2, e3, e4⟩ := bind_ok e2
    cases e4
    cases q : lenC es with
    | none => rw [q] at h'; cases h'
    | some m =>
      rw [q] at h'
      cases h'
      rw [List.length_cons, evL_len q e3]
  | .var _, _, _, _, _, _, h, _ => nomatch h
  | .non, _, _, _, _, _, h, _ => nomatch h
  | .bl _, _, _, _, _, _, h, _ => nomatch h
  | .int _, _, _, _, _, _, h, _ => nomatch h
  | .str _, _, _, _, _, _, h, _ => nomatch h
  | .glo _, _, _, _, _, _, h, _ => nomatch h
  | .fnv _, _, _, _, _, _, h, _ => nomatch h
  | .scons _ _, _, _, _, _, _, h, _ => nomatch h
  | .bin _ _ _, _, _, _, _, _, h, _ => nomatch h
  | .neg _, _, _, _, _, _, h, _ => nomatch h
  | .cmp _ _ _, _, _, _, _, _, h, _ => nomatch h
  | .cmp2 _ _ _ _ _, _, _, _, _, _, h, _ => nomatch h
  | .isN _, _, _, _, _, _, h, _ => nomatch h
  | .notN _, _, _, _, _, _, h, _ => nomatch h
  | .ife _ _ _, _, _, _, _, _, h, _ => nomatch h
  | .tup _, _, _, _, _, _, h, _ => nomatch h
  | .lst _, _, _, _, _, _, h, _ => nomatch h
  | .dicE _, _, _, _, _, _, h, _ => nomatch h
  | .call _ _, _, _, _, _, _, h, _ => nomatch h
  | .callv _ _, _, _, _, _, _, h, _ => nomatch h
  | .blt _ _, _, _, _, _, _, h, _ => nomatch h
  | .isi _ _, _, _, _, _, _, h, _ => nomatch h
  | .meth _ _ _, _, _, _, _, _, h, _ => nomatch h
  | .ix _ _, _, _, _, _, _, h, _ => nomatch h
  | .sl _ _ _, _, _, _, _, _, h, _ => nomatch h
  | .rev _, _, _, _, _, _, h, _ => nomatch h
  | .rng _, _, _, _, _, _, h, _ => nomatch h
  | .enum _, _, _, _, _, _, h, _ => nomatch h
  | .zip _ _, _, _, _, _, _, h, _ => nomatch h
  | .items _, _, _, _, _, _, h, _ => nomatch h
  | .vals _, _, _, _, _, _, h, _ => nomatch h
  | .rvd _, _, _, _, _, _, h, _ => nomatch h
  | .keys _, _, _, _, _, _, h, _ => nomatch h
  | .lc _ _ _ _, _, _, _, _, _, h, _ => nomatch h
  | .lc2 _ _ _ _ _ _ _, _, _, _, _, _, h, _ => nomatch h
  | .dc _ _ _ _ _ _, _, _, _, _, _, h, _ => nomatch h
  | .dpop _, _, _, _, _, _, h, _ => nomatch h
  | .dlen _, _, _, _, _, _, h, _ => nomatch h
  | .fstr _, _, _, _, _, _, h, _ => nomatch h
  | .lrev _, _, _, _, _, _, h, _ => nomatch h
  | .sset _, _, _, _, _, _, h, _ => nomatch h
  | .lset _, _, _, _, _, _, h, _ => nomatch h
  | .cmp3 _ _ _ _ _ _ _, _, _, _, _, _, h, _ => nomatch h
  | .lvals _, _, _, _, _, _, h, _ => nomatch h
  | .litems _, _, _, _, _, _, h, _ => nomatch h
  | .lzip _ _, _, _, _, _, _, h, _ => nomatch h
  | .dsp _ _ _, _, _, _, _, _, h, _ => nomatch h
  | .fmt _, _, _, _, _, _, h, _ => nomatch h
  | .rpr _, _, _, _, _, _, h, _ => nomatch h
  | .dead, _, _, _, _, _, h, _ => nomatch h
  | .and _, _, _, _, _, _, h, _ => nomatch h
  | .or _, _, _, _, _, _, h, _ => nomatch h
  | .not _, _, _, _, _, _, h, _ => nomatch h
theorem evLp_len : ∀ {es : CE} {n : Nat} {env : Env} {dr : List Int} {ds : List D} {dr' : List Int}, lenC es = some n → evLp G es env dr = .ok ds dr' → ds.length = n
  | .nil, n, env, dr, ds, dr', h, e => by
    cases (show some 0 = some n from h)
    cases (show Res.ok [] dr = .ok ds dr' from e)
    rfl
  | .cons c es, n, env, dr, ds, dr', h, e => by
    have h' : (lenC es).map (· + 1) = some n := h
    obtain ⟨d, dr1, e1, e2⟩ := bind_ok (show ((evE G c true env dr).bind fun d dr => (evLp G es env dr).bind fun ds dr => .ok (d :: ds) dr) = .ok ds dr' from e)
    obtain ⟨ds2, dr2, e3, e4⟩ := bind_ok e2
    cases e4
    cases q : lenC es with
    | none => rw [q] at h'; cases h'
    | some m =>
      rw [q] at h'
      cases h'
      rw [List.length_cons, evLp_len q e3]
  | .var _, _, _, _, _, _, h, _ => nomatch h
  | .non, _, _, _, _, _, h, _ => nomatch h
  | .bl _, _, _, _, _, _, h, _ => nomatch h
  | .int _, _, _, _, _, _, h, _ => nomatch h
  | .str _, _, _, _, _, _, h, _ => nomatch h
  | .glo _, _, _, _, _, _, h, _ => nomatch h
  | .fnv _, _, _, _, _, _, h, _ => nomatch h
  | .scons _ _, _, _, _, _, _, h, _ => nomatch h
  | .bin _ _ _, _, _, _, _, _, h, _ => nomatch h
  | .neg _, _, _, _, _, _, h, _ => nomatch h
  | .cmp _ _ _, _, _, _, _, _, h, _ => nomatch h
  | .cmp2 _ _ _ _ _, _, _, _, _, _, h, _ => nomatch h
  | .isN _, _, _, _, _, _, h, _ => nomatch h
  | .notN _, _, _, _, _, _, h, _ => nomatch h
  | .ife _ _ _, _, _, _, _, _, h, _ => nomatch h
  | .tup _, _, _, _, _, _, h, _ => nomatch h
  | .lst _, _, _, _, _, _, h, _ => nomatch h
  | .dicE _, _, _, _, _, _, h, _ => nomatch h
  | .call _ _, _, _, _, _, _, h, _ => nomatch h
  | .callv _ _, _, _, _, _, _, h, _ => nomatch h
  | .blt _ _, _, _, _, _, _, h, _ => nomatch h
  | .isi _ _, _, _, _, _, _, h, _ => nomatch h
  | .meth _ _ _, _, _, _, _, _, h, _ => nomatch h
  | .ix _ _, _, _, _, _, _, h, _ => nomatch h
  | .sl _ _ _, _, _, _, _, _, h, _ => nomatch h
  | .rev _, _, _, _, _, _, h, _ => nomatch h
  | .rng _, _, _, _, _, _, h, _ => nomatch h
  | .enum _, _, _, _, _, _, h, _ => nomatch h
  | .zip _ _, _, _, _, _, _, h, _ => nomatch h
  | .items _, _, _, _, _, _, h, _ => nomatch h
  | .vals _, _, _, _, _, _, h, _ => nomatch h
  | .rvd _, _, _, _, _, _, h, _ => nomatch h
  | .keys _, _, _, _, _, _, h, _ => nomatch h
  | .lc _ _ _ _, _, _, _, _, _, h, _ => nomatch h
  | .lc2 _ _ _ _ _ _ _, _, _, _, _, _, h, _ => nomatch h
  | .dc _ _ _ _ _ _, _, _, _, _, _, h, _ => nomatch h
  | .dpop _, _, _, _, _, _, h, _ => nomatch h
  | .dlen _, _, _, _, _, _, h, _ => nomatch h
  | .fstr _, _, _, _, _, _, h, _ => nomatch h
  | .lrev _, _, _, _, _, _, h, _ => nomatch h
  | .sset _, _, _, _, _, _, h, _ => nomatch h
  | .lset _, _, _, _, _, _, h, _ => nomatch h
  | .cmp3 _ _ _ _ _ _ _, _, _, _, _, _, h, _ => nomatch h
  | .lvals _, _, _, _, _, _, h, _ => nomatch h
  | .litems _, _, _, _, _, _, h, _ => nomatch h
  | .lzip _ _, _, _, _, _, _, h, _ => nomatch h
  | .dsp _ _ _, _, _, _, _, _, h, _ => nomatch h
  | .fmt _, _, _, _, _, _, h, _ => nomatch h
  | .rpr _, _, _, _, _, _, h, _ => nomatch h
  | .dead, _, _, _, _, _, h, _ => nomatch h
  | .and _, _, _, _, _, _, h, _ => nomatch h
  | .or _, _, _, _, _, _, h, _ => nomatch h
  | .not _, _, _, _, _, _, h, _ => nomatch h
end
end Cr
/-! list(reversed(a list)) -/
namespace Cr
open PySem PySem.Spec PyProof.Rows RT
section
variable {pg : Program} {wd : World} {Ar : Around} {Er : Value → Shared → Prop} {s0 : Shared}
theorem ext_rev {Rr : Result → Shared → Prop} {it l T : Addr} {its : Array Value} (hh : Ar.handled = none) (hit : s0.heap.IsRevIter it l ((its.size : Int) - 1)) (hl : s0.heap.IsList l its) (hne : l ≠ it) (hn : its.size ≤ sizeLine) (hTi : T ≠ it) (hTl : T ≠ l)
    {c0 : Nat} (hT : s0.heap.get? T = some { cls := .type "list", data := .seq #[] c0 })
    (hR : ∀ h' tk acc c', (∀ b o, b ≠ T → b ≠ it → s0.heap.get? b = some o → h'.get? b = some o) → h'.get? T = some { cls := .type "list", dict := none, data := .seq acc c', slots := #[] } →
      ItemsOf (fun i v => its[its.size - 1 - i]? = some v) acc its.size → Rr (.ok (.ret .none)) { s0 with heap := h', toks := tk }) :
    wpAny (model pg wd) Ar.in1 (Builtin.List.listExtendWith (.ref T) (.ref it) .none)
      (fun fin z => match fin with | .done f => Rr (.ok f) z | .again c' => c'.quiet = true ∧ codeAny (model pg wd) Ar c' Rr z) (fun e z => Rr (.error e) z) s0 := by
  have Wk := (Walks.listRev (prog := pg) (w := wd) (A := Ar.in1) hh it l hne its).toS
  have hTf : T ∉ [it, l] := by
    intro hm
    rcases List.mem_cons.mp hm with e | hm
    · exact hTi e
    · exact hTl (List.mem_singleton.mp hm)
  have ty : s0.TypeIs (.ref it) "list_reverseiterator" := hit.typeIs
  have q1 : Builtin.List.listSameRef (.ref T) (.ref it) = false := by simp [Builtin.List.listSameRef, hTi]
  unfold Builtin.List.listExtendWith
  refine wpAny_bind (wpAny_typeOf ty ?_)
  rw [if_neg (by rw [q1]; decide)]
  refine wpAny_bind (wpAny_pyIter_revIter hit ?_)
  refine wpAny_bind (wpAny_holding ?_)
  unfold Builtin.List.listLengthHint
  refine wpAny_bind (wpAny_specialOf ty nolen_lri ?_)
  show wpAny _ Ar.in1 (specialOf (Value.ref it) (Str.ofString "__length_hint__") >>= _) _ _ _
  refine wpAny_bind (wpAny_specialOf ty hint_lri ?_)
  generalize hx : ("list_reverseiterator.__length_hint__" : String) = x0
  wp_delta
  rw [show splitId x0 = some ("list_reverseiterator", "__length_hint__") from by subst hx; decide +kernel]
  subst hx
  refine wpAny_bind (wpAny_isInstance (b := true) ty (by rw [isSubtype_type]; kernel_rfl) ?_)
  refine wpAny_pure ?_
  rw [if_neg (by decide)]
  have e9 : ((its.size : Nat) : Int) - 1 - ((0 : Nat) : Int) = (its.size : Int) - 1 := by omega
  refine wpAny_pure ⟨plainId_quiet F.plain_extend_loop _, codeAny_extend_loopS Wk hn T hTf .none its.size 0 s0 #[] c0 rfl (Nat.zero_le _) ⟨Nat.zero_le _, by rw [e9]; exact hit, hl⟩ hT (ItemsOf.nil _) fun z acc c' hm hz hacc => ?_⟩
  rw [Moved.eq_with hm]
  refine hR z.heap z.toks acc c' (fun b o hb hb2 e => hm.heap b o (fun hmem => ?_) e) hz hacc
  rcases List.mem_cons.mp hmem with e' | hmem
  · exact hb e'
  · exact hb2 (List.mem_singleton.mp hmem)
theorem call_lrev {Rq : Value → Shared → Prop} {it l : Addr} {its : Array Value} (hh : Ar.handled = none) (hit : s0.heap.IsRevIter it l ((its.size : Int) - 1)) (hl : s0.heap.IsList l its) (hne : l ≠ it) (hn : its.size ≤ sizeLine)
    (hR : ∀ h' tk acc c', (∀ b o, b ≠ it → s0.heap.get? b = some o → h'.get? b = some o) → h'.get? s0.heap.objs.size = some { cls := .type "list", dict := none, data := .seq acc c', slots := #[] } →
      ItemsOf (fun i v => its[its.size - 1 - i]? = some v) acc its.size → Rq (.ref s0.heap.objs.size) { s0 with heap := h', toks := tk }) : wpAny (model pg wd) Ar (call (.type "list") [.ref it]) Rq Er s0 := by
  obtain ⟨o1, ho1, _⟩ := id hit
  obtain ⟨o2, ho2, _⟩ := id hl
  have n1 : s0.heap.objs.size ≠ it := Nat.ne_of_gt (Heap.lt_size ho1)
  have n2 : s0.heap.objs.size ≠ l := Nat.ne_of_gt (Heap.lt_size ho2)
  refine callType_codes (Q₁ := fun ob z => ob = .ref s0.heap.objs.size ∧ z = { s0 with heap := s0.heap.push { cls := .type "list", data := .seq #[] } }) F.called_list (F.typeCall_list_1 _) F.entry_list_init (code_list_new _ ⟨rfl, rfl⟩) fun ob z hz => ?_
  obtain ⟨rfl, rfl⟩ := hz
  have g0 : (s0.heap.push { cls := .type "list", data := .seq #[] }).get? s0.heap.objs.size = some { cls := .type "list", data := .seq #[] } := Heap.get?_push_size _ rfl
  refine ⟨⟨_, g0, rfl⟩, F.args_list_init_2 _ _, ?_⟩
  show wpAny _ Ar.in1.in1 (Builtin.List.listItems (.ref s0.heap.objs.size) >>= fun old => Builtin.List.listUpdate (.ref s0.heap.objs.size) (fun _ => #[]) >>= fun _ => letGo old.toList.reverse >>= fun _ => Builtin.List.listExtendWith (.ref s0.heap.objs.size) (.ref it) .none) _ _ _
  refine wpAny_bind ?_
  unfold Builtin.List.listItems
  refine wpAny_bind (wpAny_seqItems g0 rfl (wpAny_pure ?_))
  show wpAny _ _ (updateSeq s0.heap.objs.size (fun _ => #[]) >>= fun _ => letGo (#[] : Array Value).toList.reverse >>= fun _ => Builtin.List.listExtendWith (.ref s0.heap.objs.size) (.ref it) .none) _ _ _
  refine wpAny_bind (wpAny_updateSeq g0 rfl ?_)
  have g2 := Heap.get?_update_self (Obj.mapSeq (fun _ => (#[] : Array Value))) g0 rfl
  have ot : ∀ b o, b ≠ s0.heap.objs.size → s0.heap.get? b = some o → ((s0.heap.push { cls := .type "list", data := .seq #[] }).update s0.heap.objs.size (Obj.mapSeq (fun _ => (#[] : Array Value)))).get? b = some o :=
    fun b o hb e => (Heap.get?_update_other _ _ (Ne.symm hb)).trans (Heap.get?_push_of_some _ e)
  refine wpAny_bind (wpAny_letGo ?_)
  obtain ⟨oo, h1, h2, nn, h3⟩ := id hl
  refine ext_rev (Ar := Ar.in1) hh (hit.at fun o e => ot it o (Ne.symm n1) e) ⟨oo, ot l oo (Ne.symm n2) h1, h2, nn, h3⟩ hne hn n1 n2 g2 fun h' tk acc c' hk hS hacc => ?_
  exact ⟨rfl, hR h' tk acc c' (fun b o hb e => hk b o (Nat.ne_of_lt (Heap.lt_size e)) hb (ot b o (Nat.ne_of_lt (Heap.lt_size e)) e)) hS hacc⟩
end
end Cr
namespace Cr
open PySem PySem.Spec PyProof.Rows L2
/-- list(reversed(x)), x a list: a new list -/
def tLrev (K : PySem.W.Frag) (te : TE) : TE := fun σ H Q => te σ H fun v H1 => ∃ (a : Addr) (xs : List V), v = .ref a ∧ SqL K H1 a xs ∧ ∀ q, H1 q = none → Q (.ref q) (upd H1 q (.lst xs.reverse))
section
variable {X : Cx} {ad : Option Addr} {N : En}
theorem pe_lrev {e : Expr} {te : TE} {p p2 pos pos2 : Pos} (hc : X.calm = true) (hg : Gl X "list") (hm : X.mg "list" = none) (hg2 : Gl X "reversed") (hm2 : X.mg "reversed" = none) (he : PE X e te)
    (hs : starEach [e] X.env = (false, eval e X.env) :: starEach [] X.env) : PE X (.Call (.Name "list" p) [.Call (.Name "reversed" p2) [e] [] pos2] [] pos) (tLrev X.K te) := by
  refine ⟨fun pins s σ H Q I h => ?_⟩
  refine Call_ (ld_blt I hg hm boot_list (PyProof.Rows.callWith_type1 (args_cons (Call_ (ld_blt I hg2 hm2 PyProof.Rows.boot_reversed (PyProof.Rows.callWith_type1 (args_cons (thn (he.run pins s σ H _ I h) fun u z ⟨v, H1, J, r1, q1⟩ => args_nil ?_) hs) hs rfl))) rfl) rfl rfl))
  obtain ⟨a, xs, ev, hq, q⟩ := q1
  subst ev
  obtain rfl : u = Value.ref a := r1
  obtain ⟨its, rv, pl, hz⟩ := J.list hq
  refine call_reversed_list pl.isList (args_nil ?_)
  have k0 : ∀ b o, z.heap.get? b = some o → (z.heap.push (revObj a ((its.toArray.size : Int) - 1))).get? b = some o := fun b o e => Heap.get?_push_of_some _ e
  have J2 : Inv X pins σ H1 { z with heap := z.heap.push (revObj a ((its.toArray.size : Int) - 1)) } := J.kept (t' := z.toks) k0
  have fp := J.fpOk (H' := H1) (b := z.heap.objs.size) (Nat.le_refl _) (J.hok.fresh (Nat.le_refl _))
  have hl := pl.isList
  obtain ⟨ol, hol, _⟩ := id hl
  have hn : its.toArray.size ≤ sizeLine := by rw [List.size_toArray, ← rv.length]; exact hz
  refine call_lrev (s0 := { z with heap := z.heap.push (revObj a ((its.toArray.size : Int) - 1)) }) (J2.ok.hd hc) ⟨_, Heap.get?_push_size _ rfl, rfl, rfl⟩ (hl.push _) (Nat.ne_of_lt (Heap.lt_size hol)) hn fun h' tk acc c' hk hS hi => ?_
  refine ⟨.ref _, upd H1 _ (.lst xs.reverse), J2.turnedNew (t' := tk) (ch := [z.heap.objs.size]) (T := (z.heap.push (revObj a ((its.toArray.size : Int) - 1))).objs.size) (fun b o hb e => hk b o (fun y => hb (by rw [y]; exact List.mem_singleton.mpr rfl)) e) (fun b hb => by rw [List.mem_singleton.mp hb]; exact fp) (Nat.le_refl _)
    (show ObjOk X.prog X.w _ _ _ (.lst xs.reverse) from ⟨by rw [List.length_reverse]; exact hz, acc.toList, c', RT.vals_rev rv hi, ?_⟩), rfl, q _ (J2.hok.fresh (Nat.le_refl _))⟩
  rw [Array.toArray_toList]
  exact hS
theorem m_lrev {l : Expr} {pk : Bool} {ea : Env → List Int → Res D} {p p2 pos pos2 : Pos} (hc : X.calm = true) (hg : Gl X "list") (hm : X.mg "list" = none) (hg2 : Gl X "reversed") (hm2 : X.mg "reversed" = none) (ha : PE X l (tM (gd X ad) N true ea)) (hs : isStar l = false) :
    PE X (.Call (.Name "list" p) [.Call (.Name "reversed" p2) [l] [] pos2] [] pos) (tM (gd X ad) N pk (fun env dr => (ea env dr).bind fun x dr => ofO (match x with
      | .lst ds => some (.lst ds.reverse)
      | _ => none) dr)) := PEw' (pe_lrev hc hg hm hg2 hm2 ha (star_cons hs)) fun σ H Q ⟨env, F, dr, st, k⟩ => by
  refine one st k fun x dr1 v H1 F1 st1 a r1 k1 => ?_
  obtain ⟨d, e1, k3⟩ := post_ofO k1
  cases x <;> try (cases e1; done)
  rename_i ds
  cases e1
  obtain ⟨q, vs, rfl, h1, t, hl⟩ := rq_lst r1 st1.po.s
  exact ⟨q, vs, rfl, .of h1, fun q2 hq => (kontX_of k3 st1.po.self : KontX (gd X ad) _ _ (.lst ds.reverse) Q) _ _ hq (own_lst t.rev (by rw [List.length_reverse]; exact hl))⟩
theorem m_lrevF {l : Expr} {ea : Env → List Int → Res D} {p p2 pos pos2 : Pos} (hc : X.calm = true) (hg : Gl X "list") (hm : X.mg "list" = none) (hg2 : Gl X "reversed") (hm2 : X.mg "reversed" = none) (ha : PE X l (tM (gd X ad) N true ea)) (hs : isStar l = false) :
    PE X (.Call (.Name "list" p) [.Call (.Name "reversed" p2) [l] [] pos2] [] pos) (tMF (gd X ad) N (fun env dr => ((ea env dr).bind fun x dr => ofO (match x with
      | .lst ds => some (.lst ds.reverse)
      | _ => none) dr).bind fun d dr => ofO (freshD d) dr)) := PEw' (pe_lrev hc hg hm hg2 hm2 ha (star_cons hs)) fun σ H Q ⟨env, F, dr, st, k⟩ => by
  dsimp only at k
  rw [Res.bind_assoc] at k
  refine oneF st k fun x dr1 v H1 F1 st1 a r1 k1 => ?_
  obtain ⟨d, e1, k3⟩ := post_ofO (post_bind k1)
  cases x <;> try (cases e1; done)
  rename_i ds
  cases e1
  obtain ⟨q, vs, rfl, h1, t, hl⟩ := rq_lst r1 st1.po.s
  exact ⟨q, vs, rfl, .of h1, fun q2 hq => (konF_of k3 st1.po.self : KontX (gd X ad) _ _ (.lst ds.reverse) Q) _ _ hq (own_lst t.rev (by rw [List.length_reverse]; exact hl))⟩
end
end Cr
namespace Cr
open PySem PySem.Spec PyProof.Rows L2

theorem dead_E {X : Cx} {ad : Option Addr} {N : En} {pk : Bool} {e : Expr} {ev : Env → List Int → Res D} (h : ∀ env dr, ev env dr = .bad) : PE X e (tM (gd X ad) N pk ev) := ⟨fun pins s σ H Q I ⟨env, F, dr, st, k⟩ => by
  rw [h] at k
  exact k.elim⟩
theorem dead_T {X : Cx} {ad : Option Addr} {N : En} {e : Expr} {ev : Env → List Int → Res Bool} (h : ∀ env dr, ev env dr = .bad) : PT X e (tT (gd X ad) N ev) := ⟨fun pins s σ H Q I ⟨env, F, dr, st, k⟩ => by
  rw [h] at k
  exact k.elim⟩
section
variable {X : Cx} {ad : Option Addr} {N : En} {G : Cfg} {k : Nat} {C : Ct} {pk : Bool}
/-- a call, held -/
theorem call_snd {f x : Str} {es : CE} {l : Expr} {ls : List Expr} {p pos : Pos} (xf : XF X ad N G k C) (h : (decide (x = f) && gloB C x && decide (C.fns.lookup x = some (ls.length + 1)) && decide (lenC es = some (ls.length + 1)) && (l :: ls).all (fun e => !isStar e)) = true)
    (ha : PA X (l :: ls) (tA (gd X ad) N (evL G es))) : PE X (.Call (.Name x p) (l :: ls) [] pos) (tM (gd X ad) N pk (evE G (.call f es) pk)) := by
  simp only [Bool.and_eq_true, decide_eq_true_eq] at h
  obtain ⟨⟨⟨⟨rfl, h1⟩, h2⟩, h3⟩, h4⟩ := h
  obtain ⟨fn, e1, g⟩ := xf.fns x _ h2
  obtain ⟨g1, g2, _⟩ := gl_of xf h1
  have h4' := h4
  rw [List.all_cons, Bool.and_eq_true] at h4'
  have key : PE X (.Call (.Name x p) (l :: ls) [] pos) (tM (gd X ad) N pk (fun env dr => (evL G es env dr).bind fun ds dr => fn ds dr)) :=
    m_call g xf.room g1 g2 xf.tk ha rfl (fun env dr ds dr' e => evL_len h3 e) (star_cons (by simpa using h4'.1)) (star_any h4'.2)
  have e2 : evE G (.call x es) pk = fun env dr => (evL G es env dr).bind fun ds dr => fn ds dr := by
    funext env dr
    show ((evL G es env dr).bind fun ds dr => match G.fns x with
      | some g => g ds dr
      | none => .bad) = _
    rw [e1]
  rw [e2]
  exact key
/-- a test that is a value -/
theorem tru_snd {e : Expr} {ea : Env → List Int → Res D} (hb : isBare e = true) (ha : PE X e (tM (gd X ad) N true ea)) : PT X e (tT (gd X ad) N (fun env dr => (ea env dr).bind fun x dr => ofO x.tru dr)) := n_tru (pa := true) ha fun w => bare hb w
theorem tru_bl {ea : Env → List Int → Res Bool} : (fun env dr => ((ea env dr).bind fun b dr => .ok (D.bl b) dr).bind fun x dr => ofO x.tru dr) = ea := by
  funext env dr
  cases ea env dr <;> rfl
end
theorem isNil_eq {c : CE} (h : isNil c = true) : c = .nil := by cases c <;> first | rfl | cases h
theorem evAnd_cons {G : Cfg} {c cs : CE} (h : isNil cs = false) : evAnd G (.cons c cs) = fun env dr => (evE G c true env dr).bind fun x dr => match x with
    | .bl true => evAnd G cs env dr
    | .bl false => .ok (.bl false) dr
    | _ => .bad := by
  cases cs <;> first | (cases h; done) | rfl
theorem evOr_cons {G : Cfg} {c cs : CE} (h : isNil cs = false) : evOr G (.cons c cs) = fun env dr => (evE G c true env dr).bind fun x dr => match x with
    | .bl true => .ok (.bl true) dr
    | .bl false => evOr G cs env dr
    | _ => .bad := by
  cases cs <;> first | (cases h; done) | rfl
theorem evTand_cons {G : Cfg} {c cs : CE} (h : isNil cs = false) : evTand G (.cons c cs) = fun env dr => (evT G c env dr).bind fun b dr => match b with
    | true => evTand G cs env dr
    | false => .ok false dr := by
  cases cs <;> first | (cases h; done) | rfl
theorem evTor_cons {G : Cfg} {c cs : CE} (h : isNil cs = false) : evTor G (.cons c cs) = fun env dr => (evT G c env dr).bind fun b dr => match b with
    | true => .ok true dr
    | false => evTor G cs env dr := by
  cases cs <;> first | (cases h; done) | rfl
section
variable {X : Cx} {ad : Option Addr} {N : En} {pk : Bool} {pos : Pos}
theorem dead_I {tg e : Expr} {ev : Env → List Int → Res (List D)} (h : ∀ env dr, ev env dr = .bad) : PI X tg e (tI (gd X ad) N pk ev) := ⟨fun pins s σ H Q I ⟨env, F, dr, st, k⟩ => by
  rw [h] at k
  exact k.elim⟩
theorem bool1 {op : BoolOp} {e : Expr} {ev : Env → List Int → Res D} (h : PE X e (tM (gd X ad) N pk ev)) : PE X (.BoolOp op [e] pos) (tM (gd X ad) N pk ev) := ⟨fun pins s σ H Q I q => BoolOp_one (h.run pins s σ H Q I q)⟩
theorem ts_nil : PTs X [] (tT (gd X ad) N (fun _ dr => .ok true dr)) := ⟨fun pins s σ H Q I ⟨env, F, dr, st, k⟩ => pts_nil.run pins s σ H Q I (k H F st.po.self)⟩
end
theorem asg_cons {env : PySem.Env} {e : Expr} {es : List Expr} (h : isStar e = false) : (assignEach (e :: es) env).map (·.2) = assign e env :: (assignEach es env).map (·.2) := by
  cases e <;> first | rfl | cases h
theorem asg_len {env : PySem.Env} : ∀ {es : List Expr}, (assignEach es env).length = es.length
  | [] => rfl
  | e :: es => by
    have := asg_len (env := env) (es := es)
    cases e <;> (show (assignEach es env).length + 1 = _; rw [this]; rfl)
theorem asg_star {env : PySem.Env} : ∀ {es : List Expr}, es.all (fun e => !isStar e) = true → (assignEach es env).findIdx? (·.1) = none
  | [], _ => rfl
  | e :: es, h => by
    rw [List.all_cons, Bool.and_eq_true] at h
    have h1 : isStar e = false := by simpa using h.1
    have ih := asg_star (env := env) h.2
    rw [List.findIdx?_eq_none_iff] at ih ⊢
    intro x hx
    have hx' : x = (false, assign e env) ∨ x ∈ assignEach es env := by
      cases e <;> first | (cases h1; done) | exact List.mem_cons.mp hx
    rcases hx' with z | z
    · rw [z]
    · exact ih x z
/-! ### patterns -/
mutual
theorem ckP_snd : ∀ (p : Pat) (C : Ct) (e : Expr), ckP p C e = true → ∀ {X : Cx} {ad : Option Addr} {N : En} {G : Cfg} {k : Nat} (xf : XF X ad N G k C), PG X e (gP (gd X ad) N p)
  | .nm i, C, e, h, X, ad, N, G, k, xf => by
    rw [ckP] at h
    split at h
    · rename_i x p q
      obtain rfl := vName_inv q
      simp only [Bool.and_eq_true, decide_eq_true_eq] at h
      exact g_nm xf.nd (by rw [xf.eN]; exact h.1.1) (by rw [xf.sc]; exact loc_of h.1.2) (fn_ok xf h.2)
    · cases h
  | .tp ps, C, e, h, X, ad, N, G, k, xf => by
    rw [ckP] at h
    split at h
    · rename_i es j p q
      obtain rfl := vTuple_inv q
      simp only [Bool.and_eq_true, decide_eq_true_eq] at h
      obtain ⟨⟨⟨h1, h2⟩, h3⟩, h4⟩ := h
      exact g_tp xf.calm (ckPs_snd ps C es h4 xf) h1 (by rw [asg_len, h2]) (asg_star h3)
    · cases h
  | .nil, _, _, h, _, _, _, _, _, _ => nomatch h
  | .cons _ _, _, _, h, _, _, _, _, _, _ => nomatch h
theorem ckPs_snd : ∀ (p : Pat) (C : Ct) (es : List Expr), ckPs p C es = true → ∀ {X : Cx} {ad : Option Addr} {N : En} {G : Cfg} {k : Nat} (xf : XF X ad N G k C), PGs X es (gPs (gd X ad) N p)
  | .nil, C, es, h, X, ad, N, G, k, xf => by
    rw [ckPs, List.isEmpty_iff] at h
    subst h
    exact gs_nil
  | .cons p ps, C, es, h, X, ad, N, G, k, xf => by
    cases es with
    | nil => cases h
    | cons e es =>
      have h : (!isStar e && ckP p C e && ckPs ps C es) = true := h
      simp only [Bool.and_eq_true, Bool.not_eq_true'] at h
      exact gs_cons (ckP_snd p C e h.1.2 xf) (ckPs_snd ps C es h.2 xf) (asg_cons h.1.1)
  | .nm _, _, _, h, _, _, _, _, _, _ => nomatch h
  | .tp _, _, _, h, _, _, _, _, _, _ => nomatch h
end
mutual
theorem ckE_snd : ∀ (c : CE) (C : Ct) (e : Expr), ckE c C e = true → ∀ {X : Cx} {ad : Option Addr} {N : En} {G : Cfg} {k : Nat} (xf : XF X ad N G k C) (pk : Bool), PE X e (tM (gd X ad) N pk (evE G c pk))
  | .var i, C, e, h, X, ad, N, G, k, xf, pk => by
    obtain ⟨x, p, rfl, hv⟩ := pvar_of xf h
    exact m_var hv
  | .non, C, e, h, X, ad, N, G, k, xf, pk => by
    rw [ckE] at h
    split at h
    · rename_i q
      obtain rfl := vConstant_inv q
      exact m_const (x := .non) (d := .non) pe_non (fun F => rfl) fun _ _ => rfl
    · cases h
  | .bl b, C, e, h, X, ad, N, G, k, xf, pk => by
    rw [ckE] at h
    split at h
    · rename_i q
      obtain rfl := vConstant_inv q
      cases of_decide_eq_true h
      exact m_const (x := .bl b) (d := .bl b) pe_bl (fun F => rfl) fun _ _ => rfl
    · cases h
  | .int b, C, e, h, X, ad, N, G, k, xf, pk => by
    rw [ckE] at h
    split at h
    · rename_i q
      obtain rfl := vConstant_inv q
      cases of_decide_eq_true h
      exact m_const (x := .int b) (d := .int b) pe_int (fun F => rfl) fun _ _ => rfl
    · cases h
  | .str b, C, e, h, X, ad, N, G, k, xf, pk => by
    rw [ckE] at h
    split at h
    · rename_i q
      obtain rfl := vConstant_inv q
      cases of_decide_eq_true h
      exact m_const (x := .str b) (d := .str b) pe_str (fun F => rfl) fun _ _ => rfl
    · cases h
  | .glo x, C, e, h, X, ad, N, G, k, xf, pk => by
    rw [ckE] at h
    split at h
    · rename_i y p q
      obtain rfl := vName_inv q
      simp only [Bool.and_eq_true, decide_eq_true_eq] at h
      obtain ⟨⟨rfl, h1⟩, h2⟩ := h
      obtain ⟨d, v, u, e1, e2, r, rr⟩ := xf.cons x h2
      obtain ⟨g1, g2, _⟩ := gl_of xf h1
      refine m_const (x := v) (d := d) (pe_glob g1 e2 r g2) rr fun env dr => ?_
      show ofO (G.cons x) dr = _
      rw [e1]
      rfl
    · cases h
  | .fnv x, C, e, h, X, ad, N, G, k, xf, pk => by
    rw [ckE] at h
    split at h
    · rename_i y p q
      obtain rfl := vName_inv q
      simp only [Bool.and_eq_true, decide_eq_true_eq] at h
      obtain ⟨⟨rfl, h1⟩, h2⟩ := h
      obtain ⟨n, h3⟩ := Option.isSome_iff_exists.mp h2
      obtain ⟨fn, _, g⟩ := xf.fns x n h3
      obtain ⟨g1, g2, _⟩ := gl_of xf h1
      exact m_fnv g g1 g2
    · cases h
  | .callv f es, C, e, h, X, ad, N, G, k, xf, pk => by
    rw [ckE] at h
    split at h
    · rename_i n l ls p q
      obtain rfl := vCall_inv q
      simp only [Bool.and_eq_true] at h
      obtain ⟨⟨⟨h1, h2⟩, h3⟩, h4⟩ := h
      obtain ⟨t, q2⟩ := Option.isSome_iff_exists.mp h1
      obtain ⟨a, i, p2⟩ := t
      obtain rfl := vSubscript_inv q2
      have h4' := h4
      rw [List.all_cons, Bool.and_eq_true] at h4'
      exact m_callv (G := G) (ef := evE G f true) (el := evL G es) xf.far xf.room xf.tk (ckE_snd f C _ h2 xf true) (ckL_snd es C _ h3 xf) (star_cons (by simpa using h4'.1)) (star_any h4'.2) rfl
    · cases h
  | .bin op a b, C, e, h, X, ad, N, G, k, xf, pk => by
    rw [ckE] at h
    split at h
    · rename_i l o r p q
      obtain rfl := vBinOp_inv q
      simp only [Bool.and_eq_true, decide_eq_true_eq] at h
      obtain ⟨⟨rfl, h1⟩, h2⟩ := h
      exact m_bin (ea := evE G a true) (eb := evE G b true) (ckE_snd a C l h1 xf true) (ckE_snd b C r h2 xf true)
    · cases h
  | .neg a, C, e, h, X, ad, N, G, k, xf, pk => by
    rw [ckE] at h
    split at h
    · rename_i l p q
      obtain rfl := vUnaryOp_inv q
      exact m_neg (ea := evE G a true) (ckE_snd a C l h xf true)
    · cases h
  | .not a, C, e, h, X, ad, N, G, k, xf, pk => by
    rw [ckE] at h
    split at h
    · rename_i l p q
      obtain rfl := vUnaryOp_inv q
      exact m_not (ea := evE G a true) (ckE_snd a C l h xf true)
    · cases h
  | .cmp op a b, C, e, h, X, ad, N, G, k, xf, pk => by
    rw [ckE] at h
    split at h
    · rename_i l o r p q
      obtain rfl := vCompare_inv q
      simp only [Bool.and_eq_true, decide_eq_true_eq, Bool.not_eq_true'] at h
      obtain ⟨⟨⟨rfl, h0⟩, h1⟩, h2⟩ := h
      exact m_cmp (ea := evE G a true) (eb := evE G b true) xf.hu (set_marks h0) (ckE_snd a C l h1 xf true) (ckE_snd b C r h2 xf true)
    · cases h
  | .cmp2 o1 o2 a b c, C, e, h, X, ad, N, G, k, xf, pk => by
    rw [ckE] at h
    split at h
    · rename_i l o o' r s p q
      obtain rfl := vCompare_inv q
      simp only [Bool.and_eq_true, decide_eq_true_eq, Bool.not_eq_true'] at h
      obtain ⟨⟨⟨⟨⟨rfl, rfl⟩, h0⟩, h1⟩, h2⟩, h3⟩ := h
      exact m_chain (ea := evE G a true) (eb := evE G b true) (ec := evE G c true) xf.hu (set_marks h0) (ckE_snd a C l h1 xf true) (ckE_snd b C r h2 xf true) (ckE_snd c C s h3 xf true)
    · cases h
  | .isN a, C, e, h, X, ad, N, G, k, xf, pk => by
    rw [ckE] at h
    split at h
    · rename_i l r p q
      obtain rfl := vCompare_inv q
      split at h
      · rename_i q2
        obtain rfl := vConstant_inv q2
        exact m_isN (ea := evE G a true) (ckE_snd a C l h xf true)
      · cases h
    · cases h
  | .notN a, C, e, h, X, ad, N, G, k, xf, pk => by
    rw [ckE] at h
    split at h
    · rename_i l r p q
      obtain rfl := vCompare_inv q
      split at h
      · rename_i q2
        obtain rfl := vConstant_inv q2
        exact m_notN (ea := evE G a true) (ckE_snd a C l h xf true)
      · cases h
    · cases h
  | .and es, C, e, h, X, ad, N, G, k, xf, pk => by
    rw [ckE] at h
    split at h
    · rename_i ls p q
      obtain rfl := vBoolOp_inv q
      exact ckAnd_snd es C ls h xf pk p
    · cases h
  | .or es, C, e, h, X, ad, N, G, k, xf, pk => by
    rw [ckE] at h
    split at h
    · rename_i ls p q
      obtain rfl := vBoolOp_inv q
      exact ckOr_snd es C ls h xf pk p
    · cases h
  | .ife c a b, C, e, h, X, ad, N, G, k, xf, pk => by
    rw [ckE] at h
    split at h
    · rename_i t l r p q
      obtain rfl := vIfExp_inv q
      simp only [Bool.and_eq_true] at h
      exact m_ife (et := evT G c) (ea := evE G a false) (eb := evE G b false) (ckT_snd c C t h.1.1 xf) (m_up (ckE_snd a C l h.1.2 xf false)) (m_up (ckE_snd b C r h.2 xf false))
    · cases h
  | .tup es, C, e, h, X, ad, N, G, k, xf, pk => by
    rw [ckE] at h
    split at h
    · rename_i ls j p q
      obtain rfl := vTuple_inv q
      exact m_tup (el := evL G es) (ckL_snd es C ls h xf)
    · cases h
  | .lst es, C, e, h, X, ad, N, G, k, xf, pk => by
    rw [ckE] at h
    split at h
    · rename_i ls p q
      obtain rfl := vList_inv q
      exact m_thaw (m_lst (el := evL G es) (ckL_snd es C ls h xf))
    · cases h
  | .dicE t, C, e, h, X, ad, N, G, k, xf, pk => by
    rw [ckE] at h
    split at h
    · rename_i p q
      obtain rfl := vDict_inv q
      exact m_thaw (m_dicE t)
    · cases h
  | .call f es, C, e, h, X, ad, N, G, k, xf, pk => by
    rw [ckE] at h
    split at h
    · rename_i n l ls p q
      obtain rfl := vCall_inv q
      split at h
      · rename_i x p2 q2
        obtain rfl := vName_inv q2
        simp only [Bool.and_eq_true] at h
        obtain ⟨⟨⟨⟨⟨h1, h2⟩, h3⟩, h4⟩, h5⟩, h6⟩ := h
        exact call_snd xf (by simp only [Bool.and_eq_true]; exact ⟨⟨⟨⟨h1, h2⟩, h3⟩, h5⟩, h6⟩) (ckL_snd es C _ h4 xf)
      · cases h
    · cases h
  | .blt f es, C, e, h, X, ad, N, G, k, xf, pk => by
    rw [ckE] at h
    split at h
    · rename_i n l ls p q
      obtain rfl := vCall_inv q
      split at h
      · rename_i x p2 q2
        obtain rfl := vName_inv q2
        simp only [Bool.and_eq_true, decide_eq_true_eq] at h
        obtain ⟨⟨⟨rfl, h2⟩, h3⟩, h4⟩ := h
        obtain ⟨g1, g2⟩ := blt_of xf h2
        have h4' := h4
        rw [List.all_cons, Bool.and_eq_true] at h4'
        exact m_blt (el := evLp G es) xf.calm xf.hu6 g1 g2 (ckLp_snd es C _ h3 xf) (star_cons (by simpa using h4'.1)) (star_any h4'.2)
      · cases h
    · cases h
  | .isi a t, C, e, h, X, ad, N, G, k, xf, pk => by
    rw [ckE] at h
    split at h
    · rename_i n l r p q
      obtain rfl := vCall_inv q
      split at h
      · rename_i x p2 y p3 q2 q3
        obtain rfl := vName_inv q2
        obtain rfl := vName_inv q3
        simp only [Bool.and_eq_true, decide_eq_true_eq, Bool.not_eq_true'] at h
        obtain ⟨⟨⟨⟨⟨rfl, rfl⟩, h2⟩, h3⟩, h4⟩, h5⟩ := h
        obtain ⟨g1, g2⟩ := blt_of xf h2
        obtain ⟨g3, g4⟩ := blt_of xf h3
        exact m_isi (ea := evE G a true) g1 g2 g3 g4 (ckE_snd a C l h5 xf true) (star_cons h4)
      · cases h
    · cases h
  | .meth m o es, C, e, h, X, ad, N, G, k, xf, pk => by
    rw [ckE] at h
    split at h
    · rename_i n l ls pos q
      obtain rfl := vCall_inv q
      split at h
      · rename_i r x apos q2
        obtain rfl := vAttribute_inv q2
        simp only [Bool.and_eq_true, decide_eq_true_eq, Bool.not_eq_true'] at h
        obtain ⟨⟨⟨⟨⟨⟨⟨rfl, h1⟩, h2⟩, h3⟩, h4⟩, h5⟩, h6⟩, h7⟩ := h
        have h5' := h5
        rw [List.all_cons, Bool.and_eq_true] at h5'
        refine m_meth (ea := evE G o true) (el := evL G es) h1 (by have := xf.hu; omega) (ckE_snd o C r h6 xf true) (ckL_snd es C _ h7 xf) (noSup h3) ?_ h2 (star_cons (by simpa using h5'.1)) (star_any h5'.2)
        rw [star_all h5]
        simp only [List.length_cons, List.length_nil, List.isEmpty_nil, if_pos, Bool.true_and, keywordEach, backToKw, List.map_nil, List.all_nil, decide_eq_true_eq]
        omega
      · cases h
    · cases h
  | .ix a i, C, e, h, X, ad, N, G, k, xf, pk => by
    rw [ckE] at h
    split at h
    · rename_i l r p q
      obtain rfl := vSubscript_inv q
      simp only [Bool.and_eq_true, Bool.not_eq_true'] at h
      exact m_ix (ea := evE G a true) (eb := evE G i true) (by have := xf.hu; omega) (ckE_snd a C l h.1.2 xf true) (ckE_snd i C r h.2 xf true) (plainIx h.1.1)
    · cases h
  | .sl a lo hi, C, e, h, X, ad, N, G, k, xf, pk => by
    rw [ckE] at h
    split at h
    · rename_i l r p q
      obtain rfl := vSubscript_inv q
      split at h
      · rename_i x y p2 q2
        obtain rfl := vSlice_inv q2
        simp only [Bool.and_eq_true] at h
        exact m_sl (ea := evE G a true) (el := evO G lo) (eh := evO G hi) (ckE_snd a C l h.1.1 xf true) (ckO_snd lo C x h.1.2 xf) (ckO_snd hi C y h.2 xf)
      · cases h
    · cases h
  | .rev a, C, e, h, X, ad, N, G, k, xf, pk => by
    rw [ckE] at h
    split at h
    · rename_i l r p q
      obtain rfl := vSubscript_inv q
      split at h
      · rename_i st p2 q2
        obtain rfl := vSlice_inv q2
        split at h
        · rename_i o p3 q3
          obtain rfl := vUnaryOp_inv q3
          split at h
          · rename_i j p4 q4
            obtain rfl := vConstant_inv q4
            exact m_rev (ea := evE G a true) (ckE_snd a C l h xf true)
          · cases h
        · cases h
      · cases h
    · cases h
  | .lc p it t x, C, e, h, X, ad, N, G, k, xf, pk => by
    rw [ckE] at h
    split at h
    · rename_i elt tg iter ifs s pos q
      obtain rfl := vListComp_inv q
      simp only [Bool.and_eq_true, Bool.not_eq_true'] at h
      obtain ⟨⟨⟨⟨⟨h1, h2⟩, h3⟩, h4⟩, h5⟩, h6⟩ := h
      exact m_thaw (m_lc (ei := evI G it true) (et := evTs G t) (ee := evE G x false) xf.calm xf.nd (blk_of xf h1) (ownOf_snd C p) (ckI_snd it C tg iter h3 xf true) (fun s H A cl fp => ckP_snd p _ tg h4 (xf.inBlk s H _ A cl fp))
        (fun s H A cl fp => ckTs_snd t _ ifs h5 (xf.inBlk s H _ A cl fp)) (fun s H A cl fp => ckE_snd x _ elt h6 (xf.inBlk s H _ A cl fp) false) (set_fold h2))
    · cases h
  | .dpop i, C, e, h, X, ad, N, G, k, xf, pk => by
    rw [ckE] at h
    split at h
    · rename_i n pos q
      obtain rfl := vCall_inv q
      split at h
      · rename_i r x apos q2
        obtain rfl := vAttribute_inv q2
        simp only [Bool.and_eq_true, decide_eq_true_eq] at h
        obtain ⟨⟨rfl, h1⟩, h2⟩ := h
        obtain ⟨y, p, rfl, hv⟩ := pvar_of xf h2
        exact m_dpop hv h1
      · cases h
    · cases h
  | .dlen i, C, e, h, X, ad, N, G, k, xf, pk => by
    rw [ckE] at h
    split at h
    · rename_i n l pos q
      obtain rfl := vCall_inv q
      split at h
      · rename_i x p2 q2
        obtain rfl := vName_inv q2
        simp only [Bool.and_eq_true, decide_eq_true_eq] at h
        obtain ⟨⟨rfl, h1⟩, h2⟩ := h
        obtain ⟨y, p, rfl, hv⟩ := pvar_of xf h2
        obtain ⟨g1, g2⟩ := blt_of xf h1
        exact m_dlen g1 g2 hv
      · cases h
    · cases h
  | .dead, C, e, h, X, ad, N, G, k, xf, pk => dead_E fun _ _ => rfl
  | .lrev a, C, e, h, X, ad, N, G, k, xf, pk => by
    rw [ckE] at h
    split at h
    · rename_i n c pos q
      obtain rfl := vCall_inv q
      split at h
      · rename_i x p m l p2 q2 q3
        obtain rfl := vName_inv q2
        obtain rfl := vCall_inv q3
        split at h
        · rename_i y p3 q4
          obtain rfl := vName_inv q4
          simp only [Bool.and_eq_true, decide_eq_true_eq, Bool.not_eq_true'] at h
          obtain ⟨⟨⟨⟨⟨rfl, rfl⟩, h1⟩, h2⟩, h3⟩, h4⟩ := h
          obtain ⟨g1, g2⟩ := blt_of xf h1
          obtain ⟨g3, g4⟩ := blt_of xf h2
          exact m_lrev (ea := evE G a true) xf.calm g1 g2 g3 g4 (ckE_snd a C l h4 xf true) h3
        · cases h
      · cases h
    · cases h
  | .nil, C, e, h, X, ad, N, G, k, xf, pk => nomatch h
  | .cons _ _, C, e, h, X, ad, N, G, k, xf, pk => nomatch h
  | .scons _ _, C, e, h, X, ad, N, G, k, xf, pk => nomatch h
  | .rng _, C, e, h, X, ad, N, G, k, xf, pk => nomatch h
  | .enum _, C, e, h, X, ad, N, G, k, xf, pk => nomatch h
  | .zip _ _, C, e, h, X, ad, N, G, k, xf, pk => nomatch h
  | .items _, C, e, h, X, ad, N, G, k, xf, pk => nomatch h
  | .vals _, C, e, h, X, ad, N, G, k, xf, pk => nomatch h
  | .rvd _, C, e, h, X, ad, N, G, k, xf, pk => nomatch h
  | .keys _, C, e, h, X, ad, N, G, k, xf, pk => nomatch h
  | .lc2 _ _ _ _ _ _ _, C, e, h, X, ad, N, G, k, xf, pk => nomatch h
  | .dc _ _ _ _ _ _, C, e, h, X, ad, N, G, k, xf, pk => nomatch h
  | .fstr _, C, e, h, X, ad, N, G, k, xf, pk => nomatch h
  | .sset _, C, e, h, X, ad, N, G, k, xf, pk => nomatch h
  | .lset _, C, e, h, X, ad, N, G, k, xf, pk => nomatch h
  | .cmp3 _ _ _ _ _ _ _, C, e, h, X, ad, N, G, k, xf, pk => nomatch h
  | .lvals _, C, e, h, X, ad, N, G, k, xf, pk => nomatch h
  | .litems _, C, e, h, X, ad, N, G, k, xf, pk => nomatch h
  | .lzip _ _, C, e, h, X, ad, N, G, k, xf, pk => nomatch h
  | .dsp _ _ _, C, e, h, X, ad, N, G, k, xf, pk => nomatch h
  | .fmt _, C, e, h, X, ad, N, G, k, xf, pk => nomatch h
  | .rpr _, C, e, h, X, ad, N, G, k, xf, pk => nomatch h
theorem ckT_snd : ∀ (c : CE) (C : Ct) (e : Expr), ckT c C e = true → ∀ {X : Cx} {ad : Option Addr} {N : En} {G : Cfg} {k : Nat} (xf : XF X ad N G k C), PT X e (tT (gd X ad) N (evT G c))
  | .not a, C, e, h, X, ad, N, G, k, xf => by
    rw [ckT] at h
    split at h
    · rename_i l p q
      obtain rfl := vUnaryOp_inv q
      exact n_not (ea := evT G a) (ckT_snd a C l h xf)
    · cases h
  | .and es, C, e, h, X, ad, N, G, k, xf => by
    rw [ckT] at h
    split at h
    · rename_i ls p q
      obtain rfl := vBoolOp_inv q
      exact (ckTand_snd es C ls h xf p).pt
    · cases h
  | .or es, C, e, h, X, ad, N, G, k, xf => by
    rw [ckT] at h
    split at h
    · rename_i ls p q
      obtain rfl := vBoolOp_inv q
      exact (ckTor_snd es C ls h xf p).pt
    · cases h
  | .cmp op a b, C, e, h, X, ad, N, G, k, xf => by
    rw [ckT] at h
    split at h
    · rename_i l o r p q
      obtain rfl := vCompare_inv q
      simp only [Bool.and_eq_true, decide_eq_true_eq, Bool.not_eq_true'] at h
      obtain ⟨⟨⟨rfl, h0⟩, h1⟩, h2⟩ := h
      exact n_cmp (ea := evE G a true) (eb := evE G b true) xf.hu (set_marks h0) (ckE_snd a C l h1 xf true) (ckE_snd b C r h2 xf true)
    · cases h
  | .cmp2 o1 o2 a b c, C, e, h, X, ad, N, G, k, xf => by
    rw [ckT] at h
    split at h
    · rename_i l o o' r s p q
      obtain rfl := vCompare_inv q
      simp only [Bool.and_eq_true, decide_eq_true_eq, Bool.not_eq_true'] at h
      obtain ⟨⟨⟨⟨⟨rfl, rfl⟩, h0⟩, h1⟩, h2⟩, h3⟩ := h
      exact n_chain (ea := evE G a true) (eb := evE G b true) (ec := evE G c true) xf.hu (set_marks h0) (ckE_snd a C l h1 xf true) (ckE_snd b C r h2 xf true) (ckE_snd c C s h3 xf true)
    · cases h
  | .isN a, C, e, h, X, ad, N, G, k, xf => by
    rw [ckT] at h
    split at h
    · rename_i l r p q
      obtain rfl := vCompare_inv q
      split at h
      · rename_i q2
        obtain rfl := vConstant_inv q2
        exact n_isN (ea := evE G a true) (ckE_snd a C l h xf true)
      · cases h
    · cases h
  | .notN a, C, e, h, X, ad, N, G, k, xf => by
    rw [ckT] at h
    split at h
    · rename_i l r p q
      obtain rfl := vCompare_inv q
      split at h
      · rename_i q2
        obtain rfl := vConstant_inv q2
        exact n_notN (ea := evE G a true) (ckE_snd a C l h xf true)
      · cases h
    · cases h
  | .call f es, C, e, h, X, ad, N, G, k, xf => by
    rw [ckT] at h
    split at h
    · rename_i n l ls p q
      obtain rfl := vCall_inv q
      split at h
      · rename_i x p2 q2
        obtain rfl := vName_inv q2
        simp only [Bool.and_eq_true] at h
        obtain ⟨⟨⟨⟨⟨h1, h2⟩, h3⟩, h4⟩, h5⟩, h6⟩ := h
        have key := tru_snd (e := .Call (.Name x p2) (l :: ls) [] p) rfl (call_snd (pk := true) (pos := p) (p := p2) xf (by simp only [Bool.and_eq_true]; exact ⟨⟨⟨⟨h1, h2⟩, h3⟩, h5⟩, h6⟩) (ckL_snd es C _ h4 xf))
        have e2 : evT G (.call f es) = fun env dr => (evE G (.call f es) true env dr).bind fun x dr => ofO x.tru dr := by
          funext env dr
          show ((evL G es env dr).bind fun ds dr => match G.fns f with
            | some g => (g ds dr).bind fun x dr => ofO x.tru dr
            | none => .bad) = Res.bind ((evL G es env dr).bind fun ds dr => match G.fns f with
            | some g => g ds dr
            | none => .bad) _
          cases evL G es env dr with
          | ok ds dr =>
            rw [Res.bind_ok, Res.bind_ok]
            cases G.fns f <;> rfl
          | exc _ _ => rfl
          | bad => rfl
        rw [e2]
        exact key
      · cases h
    · cases h
  | .blt f es, C, e, h, X, ad, N, G, k, xf => by
    rw [ckT] at h
    split at h
    · rename_i n l ls p q
      obtain rfl := vCall_inv q
      split at h
      · rename_i x p2 q2
        obtain rfl := vName_inv q2
        simp only [Bool.and_eq_true, decide_eq_true_eq] at h
        obtain ⟨⟨⟨rfl, h2⟩, h3⟩, h4⟩ := h
        obtain ⟨g1, g2⟩ := blt_of xf h2
        have h4' := h4
        rw [List.all_cons, Bool.and_eq_true] at h4'
        have key := tru_snd (e := .Call (.Name (biNm f) p2) (l :: ls) [] p) rfl (m_blt (pk := true) (pos := p) (p := p2) (el := evLp G es) xf.calm xf.hu6 g1 g2 (ckLp_snd es C _ h3 xf) (star_cons (by simpa using h4'.1)) (star_any h4'.2))
        have e2 : evT G (.blt f es) = fun env dr => ((evLp G es env dr).bind fun ds dr => ofO (bltD f ds) dr).bind fun x dr => ofO x.tru dr := by
          funext env dr
          show ((evLp G es env dr).bind fun ds dr => (ofO (bltD f ds) dr).bind fun x dr => ofO x.tru dr) = _
          cases evLp G es env dr <;> rfl
        rw [e2]
        exact key
      · cases h
    · cases h
  | .isi a t, C, e, h, X, ad, N, G, k, xf => by
    rw [ckT] at h
    split at h
    · rename_i n l r p q
      obtain rfl := vCall_inv q
      split at h
      · rename_i x p2 y p3 q2 q3
        obtain rfl := vName_inv q2
        obtain rfl := vName_inv q3
        simp only [Bool.and_eq_true, decide_eq_true_eq, Bool.not_eq_true'] at h
        obtain ⟨⟨⟨⟨⟨rfl, rfl⟩, h2⟩, h3⟩, h4⟩, h5⟩ := h
        obtain ⟨g1, g2⟩ := blt_of xf h2
        obtain ⟨g3, g4⟩ := blt_of xf h3
        have key := tru_snd (e := .Call (.Name "isinstance" p2) [l, .Name (tyNm t) p3] [] p) rfl (m_isi (pk := true) (pos := p) (p := p2) (p2 := p3) (ea := evE G a true) g1 g2 g3 g4 (ckE_snd a C l h5 xf true) (star_cons h4))
        have e2 : evT G (.isi a t) = fun env dr => ((evE G a true env dr).bind fun x dr => ofO ((isiD t x).map D.bl) dr).bind fun (x : D) dr => ofO x.tru dr := by
          funext env dr
          show ((evE G a true env dr).bind fun x dr => ofO (isiD t x) dr) = _
          cases evE G a true env dr with
          | ok d dr =>
            rw [Res.bind_ok, Res.bind_ok]
            cases isiD t d <;> rfl
          | exc _ _ => rfl
          | bad => rfl
        rw [e2]
        exact key
      · cases h
    · cases h
  | .var i, C, e, h, X, ad, N, G, k, xf => by
    obtain ⟨x, p, rfl, hv⟩ := pvar_of xf h
    exact tru_snd rfl (m_var (pk := true) hv)
  | .ix a i, C, e, h, X, ad, N, G, k, xf => by
    rw [ckT] at h
    split at h
    · rename_i l r p q
      obtain rfl := vSubscript_inv q
      simp only [Bool.and_eq_true, Bool.not_eq_true'] at h
      have key := tru_snd (e := .Subscript l r p) rfl (m_ix (pk := true) (pos := p) (ea := evE G a true) (eb := evE G i true) (by have := xf.hu; omega) (ckE_snd a C l h.1.2 xf true) (ckE_snd i C r h.2 xf true) (plainIx h.1.1))
      have e2 : evT G (.ix a i) = fun env dr => ((evE G a true env dr).bind fun x dr => (evE G i true env dr).bind fun y dr => ofO (ixD x y) dr).bind fun x dr => ofO x.tru dr := by
        funext env dr
        show ((evE G a true env dr).bind fun x dr => (evE G i true env dr).bind fun y dr => (ofO (ixD x y) dr).bind fun x dr => ofO x.tru dr) = _
        cases evE G a true env dr with
        | ok d dr =>
          rw [Res.bind_ok, Res.bind_ok]
          cases evE G i true env dr <;> rfl
        | exc _ _ => rfl
        | bad => rfl
      rw [e2]
      exact key
    · cases h
  | .dead, C, e, h, X, ad, N, G, k, xf => dead_T fun _ _ => rfl
  | .non, C, e, h, X, ad, N, G, k, xf => nomatch h
  | .bl _, C, e, h, X, ad, N, G, k, xf => nomatch h
  | .int _, C, e, h, X, ad, N, G, k, xf => nomatch h
  | .str _, C, e, h, X, ad, N, G, k, xf => nomatch h
  | .glo _, C, e, h, X, ad, N, G, k, xf => nomatch h
  | .fnv _, C, e, h, X, ad, N, G, k, xf => nomatch h
  | .nil, C, e, h, X, ad, N, G, k, xf => nomatch h
  | .cons _ _, C, e, h, X, ad, N, G, k, xf => nomatch h
  | .scons _ _, C, e, h, X, ad, N, G, k, xf => nomatch h
  | .bin _ _ _, C, e, h, X, ad, N, G, k, xf => nomatch h
  | .neg _, C, e, h, X, ad, N, G, k, xf => nomatch h
  | .ife _ _ _, C, e, h, X, ad, N, G, k, xf => nomatch h
  | .tup _, C, e, h, X, ad, N, G, k, xf => nomatch h
  | .lst _, C, e, h, X, ad, N, G, k, xf => nomatch h
  | .dicE _, C, e, h, X, ad, N, G, k, xf => nomatch h
  | .callv _ _, C, e, h, X, ad, N, G, k, xf => nomatch h
  | .meth _ _ _, C, e, h, X, ad, N, G, k, xf => nomatch h
  | .sl _ _ _, C, e, h, X, ad, N, G, k, xf => nomatch h
  | .rev _, C, e, h, X, ad, N, G, k, xf => nomatch h
  | .rng _, C, e, h, X, ad, N, G, k, xf => nomatch h
  | .enum _, C, e, h, X, ad, N, G, k, xf => nomatch h
  | .zip _ _, C, e, h, X, ad, N, G, k, xf => nomatch h
  | .items _, C, e, h, X, ad, N, G, k, xf => nomatch h
  | .vals _, C, e, h, X, ad, N, G, k, xf => nomatch h
  | .rvd _, C, e, h, X, ad, N, G, k, xf => nomatch h
  | .keys _, C, e, h, X, ad, N, G, k, xf => nomatch h
  | .lc _ _ _ _, C, e, h, X, ad, N, G, k, xf => nomatch h
  | .lc2 _ _ _ _ _ _ _, C, e, h, X, ad, N, G, k, xf => nomatch h
  | .dc _ _ _ _ _ _, C, e, h, X, ad, N, G, k, xf => nomatch h
  | .dpop _, C, e, h, X, ad, N, G, k, xf => nomatch h
  | .dlen _, C, e, h, X, ad, N, G, k, xf => nomatch h
  | .fstr _, C, e, h, X, ad, N, G, k, xf => nomatch h
  | .lrev _, C, e, h, X, ad, N, G, k, xf => nomatch h
  | .sset _, C, e, h, X, ad, N, G, k, xf => nomatch h
  | .lset _, C, e, h, X, ad, N, G, k, xf => nomatch h
  | .cmp3 _ _ _ _ _ _ _, C, e, h, X, ad, N, G, k, xf => nomatch h
  | .lvals _, C, e, h, X, ad, N, G, k, xf => nomatch h
  | .litems _, C, e, h, X, ad, N, G, k, xf => nomatch h
  | .lzip _ _, C, e, h, X, ad, N, G, k, xf => nomatch h
  | .dsp _ _ _, C, e, h, X, ad, N, G, k, xf => nomatch h
  | .fmt _, C, e, h, X, ad, N, G, k, xf => nomatch h
  | .rpr _, C, e, h, X, ad, N, G, k, xf => nomatch h
theorem ckTs_snd : ∀ (c : CE) (C : Ct) (es : List Expr), ckTs c C es = true → ∀ {X : Cx} {ad : Option Addr} {N : En} {G : Cfg} {k : Nat} (xf : XF X ad N G k C), PTs X es (tT (gd X ad) N (evTs G c))
  | .nil, C, es, h, X, ad, N, G, k, xf => by
    rw [ckTs, List.isEmpty_iff] at h
    subst h
    exact ts_nil
  | .cons c cs, C, es, h, X, ad, N, G, k, xf => by
    match es, h with
    | [], h => cases h
    | [e], h =>
      have h : (isNil cs && ckT c C e) = true := h
      rw [Bool.and_eq_true] at h
      obtain rfl := isNil_eq h.1
      exact pts_one (ckT_snd c C e h.2 xf)
    | e :: r :: rs, h => cases h
  | .var _, C, e, h, X, ad, N, G, k, xf => nomatch h
  | .non, C, e, h, X, ad, N, G, k, xf => nomatch h
  | .bl _, C, e, h, X, ad, N, G, k, xf => nomatch h
  | .int _, C, e, h, X, ad, N, G, k, xf => nomatch h
  | .str _, C, e, h, X, ad, N, G, k, xf => nomatch h
  | .glo _, C, e, h, X, ad, N, G, k, xf => nomatch h
  | .fnv _, C, e, h, X, ad, N, G, k, xf => nomatch h
  | .scons _ _, C, e, h, X, ad, N, G, k, xf => nomatch h
  | .bin _ _ _, C, e, h, X, ad, N, G, k, xf => nomatch h
  | .neg _, C, e, h, X, ad, N, G, k, xf => nomatch h
  | .cmp _ _ _, C, e, h, X, ad, N, G, k, xf => nomatch h
  | .cmp2 _ _ _ _ _, C, e, h, X, ad, N, G, k, xf => nomatch h
  | .isN _, C, e, h, X, ad, N, G, k, xf => nomatch h
  | .notN _, C, e, h, X, ad, N, G, k, xf => nomatch h
  | .ife _ _ _, C, e, h, X, ad, N, G, k, xf => nomatch h
  | .tup _, C, e, h, X, ad, N, G, k, xf => nomatch h
  | .lst _, C, e, h, X, ad, N, G, k, xf => nomatch h
  | .dicE _, C, e, h, X, ad, N, G, k, xf => nomatch h
  | .call _ _, C, e, h, X, ad, N, G, k, xf => nomatch h
  | .callv _ _, C, e, h, X, ad, N, G, k, xf => nomatch h
  | .blt _ _, C, e, h, X, ad, N, G, k, xf => nomatch h
  | .isi _ _, C, e, h, X, ad, N, G, k, xf => nomatch h
  | .meth _ _ _, C, e, h, X, ad, N, G, k, xf => nomatch h
  | .ix _ _, C, e, h, X, ad, N, G, k, xf => nomatch h
  | .sl _ _ _, C, e, h, X, ad, N, G, k, xf => nomatch h
  | .rev _, C, e, h, X, ad, N, G, k, xf => nomatch h
  | .rng _, C, e, h, X, ad, N, G, k, xf => nomatch h
  | .enum _, C, e, h, X, ad, N, G, k, xf => nomatch h
  | .zip _ _, C, e, h, X, ad, N, G, k, xf => nomatch h
  | .items _, C, e, h, X, ad, N, G, k, xf => nomatch h
  | .vals _, C, e, h, X, ad, N, G, k, xf => nomatch h
  | .rvd _, C, e, h, X, ad, N, G, k, xf => nomatch h
  | .keys _, C, e, h, X, ad, N, G, k, xf => nomatch h
  | .lc _ _ _ _, C, e, h, X, ad, N, G, k, xf => nomatch h
  | .lc2 _ _ _ _ _ _ _, C, e, h, X, ad, N, G, k, xf => nomatch h
  | .dc _ _ _ _ _ _, C, e, h, X, ad, N, G, k, xf => nomatch h
  | .dpop _, C, e, h, X, ad, N, G, k, xf => nomatch h
  | .dlen _, C, e, h, X, ad, N, G, k, xf => nomatch h
  | .fstr _, C, e, h, X, ad, N, G, k, xf => nomatch h
  | .lrev _, C, e, h, X, ad, N, G, k, xf => nomatch h
  | .sset _, C, e, h, X, ad, N, G, k, xf => nomatch h
  | .lset _, C, e, h, X, ad, N, G, k, xf => nomatch h
  | .cmp3 _ _ _ _ _ _ _, C, e, h, X, ad, N, G, k, xf => nomatch h
  | .lvals _, C, e, h, X, ad, N, G, k, xf => nomatch h
  | .litems _, C, e, h, X, ad, N, G, k, xf => nomatch h
  | .lzip _ _, C, e, h, X, ad, N, G, k, xf => nomatch h
  | .dsp _ _ _, C, e, h, X, ad, N, G, k, xf => nomatch h
  | .fmt _, C, e, h, X, ad, N, G, k, xf => nomatch h
  | .rpr _, C, e, h, X, ad, N, G, k, xf => nomatch h
  | .dead, C, e, h, X, ad, N, G, k, xf => nomatch h
  | .and _, C, e, h, X, ad, N, G, k, xf => nomatch h
  | .or _, C, e, h, X, ad, N, G, k, xf => nomatch h
  | .not _, C, e, h, X, ad, N, G, k, xf => nomatch h
theorem ckAnd_snd : ∀ (c : CE) (C : Ct) (es : List Expr), ckAO c C es = true → ∀ {X : Cx} {ad : Option Addr} {N : En} {G : Cfg} {k : Nat} (xf : XF X ad N G k C), ∀ (pk : Bool) (pos : Pos), PE X (.BoolOp .And es pos) (tM (gd X ad) N pk (evAnd G c))
  | .cons c cs, C, es, h, X, ad, N, G, k, xf, pk, pos => by
    match es, h with
    | [], h => cases h
    | [e], h =>
      have h : (isNil cs && ckE c C e) = true := h
      rw [Bool.and_eq_true] at h
      obtain rfl := isNil_eq h.1
      exact bool1 (m_up (ckE_snd c C e h.2 xf false))
    | e :: r :: rs, h =>
      have h : (!isNil cs && ckE c C e && ckAO cs C (r :: rs)) = true := h
      simp only [Bool.and_eq_true, Bool.not_eq_true'] at h
      rw [evAnd_cons h.1.1]
      exact m_and (ea := evE G c true) (eb := evAnd G cs) (ckE_snd c C e h.1.2 xf true) (ckAnd_snd cs C (r :: rs) h.2 xf pk pos)
  | .var _, C, e, h, X, ad, N, G, k, xf, pk, pos => nomatch h
  | .non, C, e, h, X, ad, N, G, k, xf, pk, pos => nomatch h
  | .bl _, C, e, h, X, ad, N, G, k, xf, pk, pos => nomatch h
  | .int _, C, e, h, X, ad, N, G, k, xf, pk, pos => nomatch h
  | .str _, C, e, h, X, ad, N, G, k, xf, pk, pos => nomatch h
  | .glo _, C, e, h, X, ad, N, G, k, xf, pk, pos => nomatch h
  | .fnv _, C, e, h, X, ad, N, G, k, xf, pk, pos => nomatch h
  | .nil, C, e, h, X, ad, N, G, k, xf, pk, pos => nomatch h
  | .scons _ _, C, e, h, X, ad, N, G, k, xf, pk, pos => nomatch h
  | .bin _ _ _, C, e, h, X, ad, N, G, k, xf, pk, pos => nomatch h
  | .neg _, C, e, h, X, ad, N, G, k, xf, pk, pos => nomatch h
  | .cmp _ _ _, C, e, h, X, ad, N, G, k, xf, pk, pos => nomatch h
  | .cmp2 _ _ _ _ _, C, e, h, X, ad, N, G, k, xf, pk, pos => nomatch h
  | .isN _, C, e, h, X, ad, N, G, k, xf, pk, pos => nomatch h
  | .notN _, C, e, h, X, ad, N, G, k, xf, pk, pos => nomatch h
  | .ife _ _ _, C, e, h, X, ad, N, G, k, xf, pk, pos => nomatch h
  | .tup _, C, e, h, X, ad, N, G, k, xf, pk, pos => nomatch h
  | .lst _, C, e, h, X, ad, N, G, k, xf, pk, pos => nomatch h
  | .dicE _, C, e, h, X, ad, N, G, k, xf, pk, pos => nomatch h
  | .call _ _, C, e, h, X, ad, N, G, k, xf, pk, pos => nomatch h
  | .callv _ _, C, e, h, X, ad, N, G, k, xf, pk, pos => nomatch h
  | .blt _ _, C, e, h, X, ad, N, G, k, xf, pk, pos => nomatch h
  | .isi _ _, C, e, h, X, ad, N, G, k, xf, pk, pos => nomatch h
  | .meth _ _ _, C, e, h, X, ad, N, G, k, xf, pk, pos => nomatch h
  | .ix _ _, C, e, h, X, ad, N, G, k, xf, pk, pos => nomatch h
  | .sl _ _ _, C, e, h, X, ad, N, G, k, xf, pk, pos => nomatch h
  | .rev _, C, e, h, X, ad, N, G, k, xf, pk, pos => nomatch h
  | .rng _, C, e, h, X, ad, N, G, k, xf, pk, pos => nomatch h
  | .enum _, C, e, h, X, ad, N, G, k, xf, pk, pos => nomatch h
  | .zip _ _, C, e, h, X, ad, N, G, k, xf, pk, pos => nomatch h
  | .items _, C, e, h, X, ad, N, G, k, xf, pk, pos => nomatch h
  | .vals _, C, e, h, X, ad, N, G, k, xf, pk, pos => nomatch h
  | .rvd _, C, e, h, X, ad, N, G, k, xf, pk, pos => nomatch h
  | .keys _, C, e, h, X, ad, N, G, k, xf, pk, pos => nomatch h
  | .lc _ _ _ _, C, e, h, X, ad, N, G, k, xf, pk, pos => nomatch h
  | .lc2 _ _ _ _ _ _ _, C, e, h, X, ad, N, G, k, xf, pk, pos => nomatch h
  | .dc _ _ _ _ _ _, C, e, h, X, ad, N, G, k, xf, pk, pos => nomatch h
  | .dpop _, C, e, h, X, ad, N, G, k, xf, pk, pos => nomatch h
  | .dlen _, C, e, h, X, ad, N, G, k, xf, pk, pos => nomatch h
  | .fstr _, C, e, h, X, ad, N, G, k, xf, pk, pos => nomatch h
  | .lrev _, C, e, h, X, ad, N, G, k, xf, pk, pos => nomatch h
  | .sset _, C, e, h, X, ad, N, G, k, xf, pk, pos => nomatch h
  | .lset _, C, e, h, X, ad, N, G, k, xf, pk, pos => nomatch h
  | .cmp3 _ _ _ _ _ _ _, C, e, h, X, ad, N, G, k, xf, pk, pos => nomatch h
  | .lvals _, C, e, h, X, ad, N, G, k, xf, pk, pos => nomatch h
  | .litems _, C, e, h, X, ad, N, G, k, xf, pk, pos => nomatch h
  | .lzip _ _, C, e, h, X, ad, N, G, k, xf, pk, pos => nomatch h
  | .dsp _ _ _, C, e, h, X, ad, N, G, k, xf, pk, pos => nomatch h
  | .fmt _, C, e, h, X, ad, N, G, k, xf, pk, pos => nomatch h
  | .rpr _, C, e, h, X, ad, N, G, k, xf, pk, pos => nomatch h
  | .dead, C, e, h, X, ad, N, G, k, xf, pk, pos => nomatch h
  | .and _, C, e, h, X, ad, N, G, k, xf, pk, pos => nomatch h
  | .or _, C, e, h, X, ad, N, G, k, xf, pk, pos => nomatch h
  | .not _, C, e, h, X, ad, N, G, k, xf, pk, pos => nomatch h
theorem ckOr_snd : ∀ (c : CE) (C : Ct) (es : List Expr), ckAO c C es = true → ∀ {X : Cx} {ad : Option Addr} {N : En} {G : Cfg} {k : Nat} (xf : XF X ad N G k C), ∀ (pk : Bool) (pos : Pos), PE X (.BoolOp .Or es pos) (tM (gd X ad) N pk (evOr G c))
  | .cons c cs, C, es, h, X, ad, N, G, k, xf, pk, pos => by
    match es, h with
    | [], h => cases h
    | [e], h =>
      have h : (isNil cs && ckE c C e) = true := h
      rw [Bool.and_eq_true] at h
      obtain rfl := isNil_eq h.1
      exact bool1 (m_up (ckE_snd c C e h.2 xf false))
    | e :: r :: rs, h =>
      have h : (!isNil cs && ckE c C e && ckAO cs C (r :: rs)) = true := h
      simp only [Bool.and_eq_true, Bool.not_eq_true'] at h
      rw [evOr_cons h.1.1]
      exact m_or (ea := evE G c true) (eb := evOr G cs) (ckE_snd c C e h.1.2 xf true) (ckOr_snd cs C (r :: rs) h.2 xf pk pos)
  | .var _, C, e, h, X, ad, N, G, k, xf, pk, pos => nomatch h
  | .non, C, e, h, X, ad, N, G, k, xf, pk, pos => nomatch h
  | .bl _, C, e, h, X, ad, N, G, k, xf, pk, pos => nomatch h
  | .int _, C, e, h, X, ad, N, G, k, xf, pk, pos => nomatch h
  | .str _, C, e, h, X, ad, N, G, k, xf, pk, pos => nomatch h
  | .glo _, C, e, h, X, ad, N, G, k, xf, pk, pos => nomatch h
  | .fnv _, C, e, h, X, ad, N, G, k, xf, pk, pos => nomatch h
  | .nil, C, e, h, X, ad, N, G, k, xf, pk, pos => nomatch h
  | .scons _ _, C, e, h, X, ad, N, G, k, xf, pk, pos => nomatch h
  | .bin _ _ _, C, e, h, X, ad, N, G, k, xf, pk, pos => nomatch h
  | .neg _, C, e, h, X, ad, N, G, k, xf, pk, pos => nomatch h
  | .cmp _ _ _, C, e, h, X, ad, N, G, k, xf, pk, pos => nomatch h
  | .cmp2 _ _ _ _ _, C, e, h, X, ad, N, G, k, xf, pk, pos => nomatch h
  | .isN _, C, e, h, X, ad, N, G, k, xf, pk, pos => nomatch h
  | .notN _, C, e, h, X, ad, N, G, k, xf, pk, pos => nomatch h
  | .ife _ _ _, C, e, h, X, ad, N, G, k, xf, pk, pos => nomatch h
  | .tup _, C, e, h, X, ad, N, G, k, xf, pk, pos => nomatch h
  | .lst _, C, e, h, X, ad, N, G, k, xf, pk, pos => nomatch h
  | .dicE _, C, e, h, X, ad, N, G, k, xf, pk, pos => nomatch h
  | .call _ _, C, e, h, X, ad, N, G, k, xf, pk, pos => nomatch h
  | .callv _ _, C, e, h, X, ad, N, G, k, xf, pk, pos => nomatch h
  | .blt _ _, C, e, h, X, ad, N, G, k, xf, pk, pos => nomatch h
  | .isi _ _, C, e, h, X, ad, N, G, k, xf, pk, pos => nomatch h
  | .meth _ _ _, C, e, h, X, ad, N, G, k, xf, pk, pos => nomatch h
  | .ix _ _, C, e, h, X, ad, N, G, k, xf, pk, pos => nomatch h
  | .sl _ _ _, C, e, h, X, ad, N, G, k, xf, pk, pos => nomatch h
  | .rev _, C, e, h, X, ad, N, G, k, xf, pk, pos => nomatch h
  | .rng _, C, e, h, X, ad, N, G, k, xf, pk, pos => nomatch h
  | .enum _, C, e, h, X, ad, N, G, k, xf, pk, pos => nomatch h
  | .zip _ _, C, e, h, X, ad, N, G, k, xf, pk, pos => nomatch h
  | .items _, C, e, h, X, ad, N, G, k, xf, pk, pos => nomatch h
  | .vals _, C, e, h, X, ad, N, G, k, xf, pk, pos => nomatch h
  | .rvd _, C, e, h, X, ad, N, G, k, xf, pk, pos => nomatch h
  | .keys _, C, e, h, X, ad, N, G, k, xf, pk, pos => nomatch h
  | .lc _ _ _ _, C, e, h, X, ad, N, G, k, xf, pk, pos => nomatch h
  | .lc2 _ _ _ _ _ _ _, C, e, h, X, ad, N, G, k, xf, pk, pos => nomatch h
  | .dc _ _ _ _ _ _, C, e, h, X, ad, N, G, k, xf, pk, pos => nomatch h
  | .dpop _, C, e, h, X, ad, N, G, k, xf, pk, pos => nomatch h
  | .dlen _, C, e, h, X, ad, N, G, k, xf, pk, pos => nomatch h
  | .fstr _, C, e, h, X, ad, N, G, k, xf, pk, pos => nomatch h
  | .lrev _, C, e, h, X, ad, N, G, k, xf, pk, pos => nomatch h
  | .sset _, C, e, h, X, ad, N, G, k, xf, pk, pos => nomatch h
  | .lset _, C, e, h, X, ad, N, G, k, xf, pk, pos => nomatch h
  | .cmp3 _ _ _ _ _ _ _, C, e, h, X, ad, N, G, k, xf, pk, pos => nomatch h
  | .lvals _, C, e, h, X, ad, N, G, k, xf, pk, pos => nomatch h
  | .litems _, C, e, h, X, ad, N, G, k, xf, pk, pos => nomatch h
  | .lzip _ _, C, e, h, X, ad, N, G, k, xf, pk, pos => nomatch h
  | .dsp _ _ _, C, e, h, X, ad, N, G, k, xf, pk, pos => nomatch h
  | .fmt _, C, e, h, X, ad, N, G, k, xf, pk, pos => nomatch h
  | .rpr _, C, e, h, X, ad, N, G, k, xf, pk, pos => nomatch h
  | .dead, C, e, h, X, ad, N, G, k, xf, pk, pos => nomatch h
  | .and _, C, e, h, X, ad, N, G, k, xf, pk, pos => nomatch h
  | .or _, C, e, h, X, ad, N, G, k, xf, pk, pos => nomatch h
  | .not _, C, e, h, X, ad, N, G, k, xf, pk, pos => nomatch h
theorem ckTand_snd : ∀ (c : CE) (C : Ct) (es : List Expr), ckTB c C es = true → ∀ {X : Cx} {ad : Option Addr} {N : En} {G : Cfg} {k : Nat} (xf : XF X ad N G k C), ∀ (pos : Pos), PW X (.BoolOp .And es pos) (tT (gd X ad) N (evTand G c))
  | .cons c cs, C, es, h, X, ad, N, G, k, xf, pos => by
    match es, h with
    | [], h => cases h
    | [e], h =>
      have h : (isNil cs && ckT c C e) = true := h
      rw [Bool.and_eq_true] at h
      obtain rfl := isNil_eq h.1
      exact n_and1 (ckT_snd c C e h.2 xf)
    | e :: r :: rs, h =>
      have h : (!isNil cs && ckT c C e && ckTB cs C (r :: rs)) = true := h
      simp only [Bool.and_eq_true, Bool.not_eq_true'] at h
      rw [evTand_cons h.1.1]
      exact n_and (ea := evT G c) (eb := evTand G cs) (ckT_snd c C e h.1.2 xf) (ckTand_snd cs C (r :: rs) h.2 xf pos)
  | .var _, C, e, h, X, ad, N, G, k, xf, pos => nomatch h
  | .non, C, e, h, X, ad, N, G, k, xf, pos => nomatch h
  | .bl _, C, e, h, X, ad, N, G, k, xf, pos => nomatch h
  | .int _, C, e, h, X, ad, N, G, k, xf, pos => nomatch h
  | .str _, C, e, h, X, ad, N, G, k, xf, pos => nomatch h
  | .glo _, C, e, h, X, ad, N, G, k, xf, pos => nomatch h
  | .fnv _, C, e, h, X, ad, N, G, k, xf, pos => nomatch h
  | .nil, C, e, h, X, ad, N, G, k, xf, pos => nomatch h
  | .scons _ _, C, e, h, X, ad, N, G, k, xf, pos => nomatch h
  | .bin _ _ _, C, e, h, X, ad, N, G, k, xf, pos => nomatch h
  | .neg _, C, e, h, X, ad, N, G, k, xf, pos => nomatch h
  | .cmp _ _ _, C, e, h, X, ad, N, G, k, xf, pos => nomatch h
  | .cmp2 _ _ _ _ _, C, e, h, X, ad, N, G, k, xf, pos => nomatch h
  | .isN _, C, e, h, X, ad, N, G, k, xf, pos => nomatch h
  | .notN _, C, e, h, X, ad, N, G, k, xf, pos => nomatch h
  | .ife _ _ _, C, e, h, X, ad, N, G, k, xf, pos => nomatch h
  | .tup _, C, e, h, X, ad, N, G, k, xf, pos => nomatch h
  | .lst _, C, e, h, X, ad, N, G, k, xf, pos => nomatch h
  | .dicE _, C, e, h, X, ad, N, G, k, xf, pos => nomatch h
  | .call _ _, C, e, h, X, ad, N, G, k, xf, pos => nomatch h
  | .callv _ _, C, e, h, X, ad, N, G, k, xf, pos => nomatch h
  | .blt _ _, C, e, h, X, ad, N, G, k, xf, pos => nomatch h
  | .isi _ _, C, e, h, X, ad, N, G, k, xf, pos => nomatch h
  | .meth _ _ _, C, e, h, X, ad, N, G, k, xf, pos => nomatch h
  | .ix _ _, C, e, h, X, ad, N, G, k, xf, pos => nomatch h
  | .sl _ _ _, C, e, h, X, ad, N, G, k, xf, pos => nomatch h
  | .rev _, C, e, h, X, ad, N, G, k, xf, pos => nomatch h
  | .rng _, C, e, h, X, ad, N, G, k, xf, pos => nomatch h
  | .enum _, C, e, h, X, ad, N, G, k, xf, pos => nomatch h
  | .zip _ _, C, e, h, X, ad, N, G, k, xf, pos => nomatch h
  | .items _, C, e, h, X, ad, N, G, k, xf, pos => nomatch h
  | .vals _, C, e, h, X, ad, N, G, k, xf, pos => nomatch h
  | .rvd _, C, e, h, X, ad, N, G, k, xf, pos => nomatch h
  | .keys _, C, e, h, X, ad, N, G, k, xf, pos => nomatch h
  | .lc _ _ _ _, C, e, h, X, ad, N, G, k, xf, pos => nomatch h
  | .lc2 _ _ _ _ _ _ _, C, e, h, X, ad, N, G, k, xf, pos => nomatch h
  | .dc _ _ _ _ _ _, C, e, h, X, ad, N, G, k, xf, pos => nomatch h
  | .dpop _, C, e, h, X, ad, N, G, k, xf, pos => nomatch h
  | .dlen _, C, e, h, X, ad, N, G, k, xf, pos => nomatch h
  | .fstr _, C, e, h, X, ad, N, G, k, xf, pos => nomatch h
  | .lrev _, C, e, h, X, ad, N, G, k, xf, pos => nomatch h
  | .sset _, C, e, h, X, ad, N, G, k, xf, pos => nomatch h
  | .lset _, C, e, h, X, ad, N, G, k, xf, pos => nomatch h
  | .cmp3 _ _ _ _ _ _ _, C, e, h, X, ad, N, G, k, xf, pos => nomatch h
  | .lvals _, C, e, h, X, ad, N, G, k, xf, pos => nomatch h
  | .litems _, C, e, h, X, ad, N, G, k, xf, pos => nomatch h
  | .lzip _ _, C, e, h, X, ad, N, G, k, xf, pos => nomatch h
  | .dsp _ _ _, C, e, h, X, ad, N, G, k, xf, pos => nomatch h
  | .fmt _, C, e, h, X, ad, N, G, k, xf, pos => nomatch h
  | .rpr _, C, e, h, X, ad, N, G, k, xf, pos => nomatch h
  | .dead, C, e, h, X, ad, N, G, k, xf, pos => nomatch h
  | .and _, C, e, h, X, ad, N, G, k, xf, pos => nomatch h
  | .or _, C, e, h, X, ad, N, G, k, xf, pos => nomatch h
  | .not _, C, e, h, X, ad, N, G, k, xf, pos => nomatch h
theorem ckTor_snd : ∀ (c : CE) (C : Ct) (es : List Expr), ckTB c C es = true → ∀ {X : Cx} {ad : Option Addr} {N : En} {G : Cfg} {k : Nat} (xf : XF X ad N G k C), ∀ (pos : Pos), PW X (.BoolOp .Or es pos) (tT (gd X ad) N (evTor G c))
  | .cons c cs, C, es, h, X, ad, N, G, k, xf, pos => by
    match es, h with
    | [], h => cases h
    | [e], h =>
      have h : (isNil cs && ckT c C e) = true := h
      rw [Bool.and_eq_true] at h
      obtain rfl := isNil_eq h.1
      exact n_or1 (ckT_snd c C e h.2 xf)
    | e :: r :: rs, h =>
      have h : (!isNil cs && ckT c C e && ckTB cs C (r :: rs)) = true := h
      simp only [Bool.and_eq_true, Bool.not_eq_true'] at h
      rw [evTor_cons h.1.1]
      exact n_or (ea := evT G c) (eb := evTor G cs) (ckT_snd c C e h.1.2 xf) (ckTor_snd cs C (r :: rs) h.2 xf pos)
  | .var _, C, e, h, X, ad, N, G, k, xf, pos => nomatch h
  | .non, C, e, h, X, ad, N, G, k, xf, pos => nomatch h
  | .bl _, C, e, h, X, ad, N, G, k, xf, pos => nomatch h
  | .int _, C, e, h, X, ad, N, G, k, xf, pos => nomatch h
  | .str _, C, e, h, X, ad, N, G, k, xf, pos => nomatch h
  | .glo _, C, e, h, X, ad, N, G, k, xf, pos => nomatch h
  | .fnv _, C, e, h, X, ad, N, G, k, xf, pos => nomatch h
  | .nil, C, e, h, X, ad, N, G, k, xf, pos => nomatch h
  | .scons _ _, C, e, h, X, ad, N, G, k, xf, pos => nomatch h
  | .bin _ _ _, C, e, h, X, ad, N, G, k, xf, pos => nomatch h
  | .neg _, C, e, h, X, ad, N, G, k, xf, pos => nomatch h
  | .cmp _ _ _, C, e, h, X, ad, N, G, k, xf, pos => nomatch h
  | .cmp2 _ _ _ _ _, C, e, h, X, ad, N, G, k, xf, pos => nomatch h
  | .isN _, C, e, h, X, ad, N, G, k, xf, pos => nomatch h
  | .notN _, C, e, h, X, ad, N, G, k, xf, pos => nomatch h
  | .ife _ _ _, C, e, h, X, ad, N, G, k, xf, pos => nomatch h
  | .tup _, C, e, h, X, ad, N, G, k, xf, pos => nomatch h
  | .lst _, C, e, h, X, ad, N, G, k, xf, pos => nomatch h
  | .dicE _, C, e, h, X, ad, N, G, k, xf, pos => nomatch h
  | .call _ _, C, e, h, X, ad, N, G, k, xf, pos => nomatch h
  | .callv _ _, C, e, h, X, ad, N, G, k, xf, pos => nomatch h
  | .blt _ _, C, e, h, X, ad, N, G, k, xf, pos => nomatch h
  | .isi _ _, C, e, h, X, ad, N, G, k, xf, pos => nomatch h
  | .meth _ _ _, C, e, h, X, ad, N, G, k, xf, pos => nomatch h
  | .ix _ _, C, e, h, X, ad, N, G, k, xf, pos => nomatch h
  | .sl _ _ _, C, e, h, X, ad, N, G, k, xf, pos => nomatch h
  | .rev _, C, e, h, X, ad, N, G, k, xf, pos => nomatch h
  | .rng _, C, e, h, X, ad, N, G, k, xf, pos => nomatch h
  | .enum _, C, e, h, X, ad, N, G, k, xf, pos => nomatch h
  | .zip _ _, C, e, h, X, ad, N, G, k, xf, pos => nomatch h
  | .items _, C, e, h, X, ad, N, G, k, xf, pos => nomatch h
  | .vals _, C, e, h, X, ad, N, G, k, xf, pos => nomatch h
  | .rvd _, C, e, h, X, ad, N, G, k, xf, pos => nomatch h
  | .keys _, C, e, h, X, ad, N, G, k, xf, pos => nomatch h
  | .lc _ _ _ _, C, e, h, X, ad, N, G, k, xf, pos => nomatch h
  | .lc2 _ _ _ _ _ _ _, C, e, h, X, ad, N, G, k, xf, pos => nomatch h
  | .dc _ _ _ _ _ _, C, e, h, X, ad, N, G, k, xf, pos => nomatch h
  | .dpop _, C, e, h, X, ad, N, G, k, xf, pos => nomatch h
  | .dlen _, C, e, h, X, ad, N, G, k, xf, pos => nomatch h
  | .fstr _, C, e, h, X, ad, N, G, k, xf, pos => nomatch h
  | .lrev _, C, e, h, X, ad, N, G, k, xf, pos => nomatch h
  | .sset _, C, e, h, X, ad, N, G, k, xf, pos => nomatch h
  | .lset _, C, e, h, X, ad, N, G, k, xf, pos => nomatch h
  | .cmp3 _ _ _ _ _ _ _, C, e, h, X, ad, N, G, k, xf, pos => nomatch h
  | .lvals _, C, e, h, X, ad, N, G, k, xf, pos => nomatch h
  | .litems _, C, e, h, X, ad, N, G, k, xf, pos => nomatch h
  | .lzip _ _, C, e, h, X, ad, N, G, k, xf, pos => nomatch h
  | .dsp _ _ _, C, e, h, X, ad, N, G, k, xf, pos => nomatch h
  | .fmt _, C, e, h, X, ad, N, G, k, xf, pos => nomatch h
  | .rpr _, C, e, h, X, ad, N, G, k, xf, pos => nomatch h
  | .dead, C, e, h, X, ad, N, G, k, xf, pos => nomatch h
  | .and _, C, e, h, X, ad, N, G, k, xf, pos => nomatch h
  | .or _, C, e, h, X, ad, N, G, k, xf, pos => nomatch h
  | .not _, C, e, h, X, ad, N, G, k, xf, pos => nomatch h
theorem ckL_snd : ∀ (c : CE) (C : Ct) (es : List Expr), ckL c C es = true → ∀ {X : Cx} {ad : Option Addr} {N : En} {G : Cfg} {k : Nat} (xf : XF X ad N G k C), PA X es (tA (gd X ad) N (evL G c))
  | .nil, C, es, h, X, ad, N, G, k, xf => by
    rw [ckL, List.isEmpty_iff] at h
    subst h
    exact a_nil
  | .cons c cs, C, es, h, X, ad, N, G, k, xf => by
    match es, h with
    | [], h => cases h
    | e :: es, h =>
      have h : (!isStar e && ckE c C e && ckL cs C es) = true := h
      simp only [Bool.and_eq_true, Bool.not_eq_true'] at h
      exact a_cons (ea := evE G c false) (el := evL G cs) (ckE_snd c C e h.1.2 xf false) (ckL_snd cs C es h.2 xf) (star_cons h.1.1)
  | .scons c cs, C, es, h, X, ad, N, G, k, xf => by
    match es, h with
    | [], h => cases h
    | e :: es, h =>
      have h : (match vStarred e with
        | some (l, _) => ckE c C l && ckL cs C es
        | none => false) = true := h
      cases q : vStarred e with
      | none => rw [q] at h; cases h
      | some t =>
        obtain ⟨l, p⟩ := t
        rw [q] at h
        obtain rfl := vStarred_inv q
        have h : (ckE c C l && ckL cs C es) = true := h
        rw [Bool.and_eq_true] at h
        exact a_scons (ea := evE G c true) (el := evL G cs) (ckE_snd c C l h.1 xf true) (ckL_snd cs C es h.2 xf) rfl
  | .var _, C, e, h, X, ad, N, G, k, xf => nomatch h
  | .non, C, e, h, X, ad, N, G, k, xf => nomatch h
  | .bl _, C, e, h, X, ad, N, G, k, xf => nomatch h
  | .int _, C, e, h, X, ad, N, G, k, xf => nomatch h
  | .str _, C, e, h, X, ad, N, G, k, xf => nomatch h
  | .glo _, C, e, h, X, ad, N, G, k, xf => nomatch h
  | .fnv _, C, e, h, X, ad, N, G, k, xf => nomatch h
  | .bin _ _ _, C, e, h, X, ad, N, G, k, xf => nomatch h
  | .neg _, C, e, h, X, ad, N, G, k, xf => nomatch h
  | .cmp _ _ _, C, e, h, X, ad, N, G, k, xf => nomatch h
  | .cmp2 _ _ _ _ _, C, e, h, X, ad, N, G, k, xf => nomatch h
  | .isN _, C, e, h, X, ad, N, G, k, xf => nomatch h
  | .notN _, C, e, h, X, ad, N, G, k, xf => nomatch h
  | .ife _ _ _, C, e, h, X, ad, N, G, k, xf => nomatch h
  | .tup _, C, e, h, X, ad, N, G, k, xf => nomatch h
  | .lst _, C, e, h, X, ad, N, G, k, xf => nomatch h
  | .dicE _, C, e, h, X, ad, N, G, k, xf => nomatch h
  | .call _ _, C, e, h, X, ad, N, G, k, xf => nomatch h
  | .callv _ _, C, e, h, X, ad, N, G, k, xf => nomatch h
  | .blt _ _, C, e, h, X, ad, N, G, k, xf => nomatch h
  | .isi _ _, C, e, h, X, ad, N, G, k, xf => nomatch h
  | .meth _ _ _, C, e, h, X, ad, N, G, k, xf => nomatch h
  | .ix _ _, C, e, h, X, ad, N, G, k, xf => nomatch h
  | .sl _ _ _, C, e, h, X, ad, N, G, k, xf => nomatch h
  | .rev _, C, e, h, X, ad, N, G, k, xf => nomatch h
  | .rng _, C, e, h, X, ad, N, G, k, xf => nomatch h
  | .enum _, C, e, h, X, ad, N, G, k, xf => nomatch h
  | .zip _ _, C, e, h, X, ad, N, G, k, xf => nomatch h
  | .items _, C, e, h, X, ad, N, G, k, xf => nomatch h
  | .vals _, C, e, h, X, ad, N, G, k, xf => nomatch h
  | .rvd _, C, e, h, X, ad, N, G, k, xf => nomatch h
  | .keys _, C, e, h, X, ad, N, G, k, xf => nomatch h
  | .lc _ _ _ _, C, e, h, X, ad, N, G, k, xf => nomatch h
  | .lc2 _ _ _ _ _ _ _, C, e, h, X, ad, N, G, k, xf => nomatch h
  | .dc _ _ _ _ _ _, C, e, h, X, ad, N, G, k, xf => nomatch h
  | .dpop _, C, e, h, X, ad, N, G, k, xf => nomatch h
  | .dlen _, C, e, h, X, ad, N, G, k, xf => nomatch h
  | .fstr _, C, e, h, X, ad, N, G, k, xf => nomatch h
  | .lrev _, C, e, h, X, ad, N, G, k, xf => nomatch h
  | .sset _, C, e, h, X, ad, N, G, k, xf => nomatch h
  | .lset _, C, e, h, X, ad, N, G, k, xf => nomatch h
  | .cmp3 _ _ _ _ _ _ _, C, e, h, X, ad, N, G, k, xf => nomatch h
  | .lvals _, C, e, h, X, ad, N, G, k, xf => nomatch h
  | .litems _, C, e, h, X, ad, N, G, k, xf => nomatch h
  | .lzip _ _, C, e, h, X, ad, N, G, k, xf => nomatch h
  | .dsp _ _ _, C, e, h, X, ad, N, G, k, xf => nomatch h
  | .fmt _, C, e, h, X, ad, N, G, k, xf => nomatch h
  | .rpr _, C, e, h, X, ad, N, G, k, xf => nomatch h
  | .dead, C, e, h, X, ad, N, G, k, xf => nomatch h
  | .and _, C, e, h, X, ad, N, G, k, xf => nomatch h
  | .or _, C, e, h, X, ad, N, G, k, xf => nomatch h
  | .not _, C, e, h, X, ad, N, G, k, xf => nomatch h
theorem ckLp_snd : ∀ (c : CE) (C : Ct) (es : List Expr), ckLp c C es = true → ∀ {X : Cx} {ad : Option Addr} {N : En} {G : Cfg} {k : Nat} (xf : XF X ad N G k C), PA X es (tAp (gd X ad) N (evLp G c))
  | .nil, C, es, h, X, ad, N, G, k, xf => by
    rw [ckLp, List.isEmpty_iff] at h
    subst h
    exact ap_nil
  | .cons c cs, C, es, h, X, ad, N, G, k, xf => by
    match es, h with
    | [], h => cases h
    | e :: es, h =>
      have h : (!isStar e && ckE c C e && ckLp cs C es) = true := h
      simp only [Bool.and_eq_true, Bool.not_eq_true'] at h
      exact ap_cons (ea := evE G c true) (el := evLp G cs) (ckE_snd c C e h.1.2 xf true) (ckLp_snd cs C es h.2 xf) (star_cons h.1.1)
  | .var _, C, e, h, X, ad, N, G, k, xf => nomatch h
  | .non, C, e, h, X, ad, N, G, k, xf => nomatch h
  | .bl _, C, e, h, X, ad, N, G, k, xf => nomatch h
  | .int _, C, e, h, X, ad, N, G, k, xf => nomatch h
  | .str _, C, e, h, X, ad, N, G, k, xf => nomatch h
  | .glo _, C, e, h, X, ad, N, G, k, xf => nomatch h
  | .fnv _, C, e, h, X, ad, N, G, k, xf => nomatch h
  | .scons _ _, C, e, h, X, ad, N, G, k, xf => nomatch h
  | .bin _ _ _, C, e, h, X, ad, N, G, k, xf => nomatch h
  | .neg _, C, e, h, X, ad, N, G, k, xf => nomatch h
  | .cmp _ _ _, C, e, h, X, ad, N, G, k, xf => nomatch h
  | .cmp2 _ _ _ _ _, C, e, h, X, ad, N, G, k, xf => nomatch h
  | .isN _, C, e, h, X, ad, N, G, k, xf => nomatch h
  | .notN _, C, e, h, X, ad, N, G, k, xf => nomatch h
  | .ife _ _ _, C, e, h, X, ad, N, G, k, xf => nomatch h
  | .tup _, C, e, h, X, ad, N, G, k, xf => nomatch h
  | .lst _, C, e, h, X, ad, N, G, k, xf => nomatch h
  | .dicE _, C, e, h, X, ad, N, G, k, xf => nomatch h
  | .call _ _, C, e, h, X, ad, N, G, k, xf => nomatch h
  | .callv _ _, C, e, h, X, ad, N, G, k, xf => nomatch h
  | .blt _ _, C, e, h, X, ad, N, G, k, xf => nomatch h
  | .isi _ _, C, e, h, X, ad, N, G, k, xf => nomatch h
  | .meth _ _ _, C, e, h, X, ad, N, G, k, xf => nomatch h
  | .ix _ _, C, e, h, X, ad, N, G, k, xf => nomatch h
  | .sl _ _ _, C, e, h, X, ad, N, G, k, xf => nomatch h
  | .rev _, C, e, h, X, ad, N, G, k, xf => nomatch h
  | .rng _, C, e, h, X, ad, N, G, k, xf => nomatch h
  | .enum _, C, e, h, X, ad, N, G, k, xf => nomatch h
  | .zip _ _, C, e, h, X, ad, N, G, k, xf => nomatch h
  | .items _, C, e, h, X, ad, N, G, k, xf => nomatch h
  | .vals _, C, e, h, X, ad, N, G, k, xf => nomatch h
  | .rvd _, C, e, h, X, ad, N, G, k, xf => nomatch h
  | .keys _, C, e, h, X, ad, N, G, k, xf => nomatch h
  | .lc _ _ _ _, C, e, h, X, ad, N, G, k, xf => nomatch h
  | .lc2 _ _ _ _ _ _ _, C, e, h, X, ad, N, G, k, xf => nomatch h
  | .dc _ _ _ _ _ _, C, e, h, X, ad, N, G, k, xf => nomatch h
  | .dpop _, C, e, h, X, ad, N, G, k, xf => nomatch h
  | .dlen _, C, e, h, X, ad, N, G, k, xf => nomatch h
  | .fstr _, C, e, h, X, ad, N, G, k, xf => nomatch h
  | .lrev _, C, e, h, X, ad, N, G, k, xf => nomatch h
  | .sset _, C, e, h, X, ad, N, G, k, xf => nomatch h
  | .lset _, C, e, h, X, ad, N, G, k, xf => nomatch h
  | .cmp3 _ _ _ _ _ _ _, C, e, h, X, ad, N, G, k, xf => nomatch h
  | .lvals _, C, e, h, X, ad, N, G, k, xf => nomatch h
  | .litems _, C, e, h, X, ad, N, G, k, xf => nomatch h
  | .lzip _ _, C, e, h, X, ad, N, G, k, xf => nomatch h
  | .dsp _ _ _, C, e, h, X, ad, N, G, k, xf => nomatch h
  | .fmt _, C, e, h, X, ad, N, G, k, xf => nomatch h
  | .rpr _, C, e, h, X, ad, N, G, k, xf => nomatch h
  | .dead, C, e, h, X, ad, N, G, k, xf => nomatch h
  | .and _, C, e, h, X, ad, N, G, k, xf => nomatch h
  | .or _, C, e, h, X, ad, N, G, k, xf => nomatch h
  | .not _, C, e, h, X, ad, N, G, k, xf => nomatch h
theorem ckO_snd : ∀ (c : CE) (C : Ct) (e : Option Expr), ckO c C e = true → ∀ {X : Cx} {ad : Option Addr} {N : En} {G : Cfg} {k : Nat} (xf : XF X ad N G k C), PO X e (tO (gd X ad) N (evO G c))
  | .nil, C, e, h, X, ad, N, G, k, xf => by
    rw [ckO, Option.isNone_iff_eq_none] at h
    subst h
    exact o_none
  | .cons c cs, C, e, h, X, ad, N, G, k, xf => by
    match e, h with
    | none, h => cases h
    | some e, h =>
      have h : (isNil cs && ckE c C e) = true := h
      rw [Bool.and_eq_true] at h
      obtain rfl := isNil_eq h.1
      exact o_some (ea := evE G c true) (ckE_snd c C e h.2 xf true)
  | .var _, C, e, h, X, ad, N, G, k, xf => nomatch h
  | .non, C, e, h, X, ad, N, G, k, xf => nomatch h
  | .bl _, C, e, h, X, ad, N, G, k, xf => nomatch h
  | .int _, C, e, h, X, ad, N, G, k, xf => nomatch h
  | .str _, C, e, h, X, ad, N, G, k, xf => nomatch h
  | .glo _, C, e, h, X, ad, N, G, k, xf => nomatch h
  | .fnv _, C, e, h, X, ad, N, G, k, xf => nomatch h
  | .scons _ _, C, e, h, X, ad, N, G, k, xf => nomatch h
  | .bin _ _ _, C, e, h, X, ad, N, G, k, xf => nomatch h
  | .neg _, C, e, h, X, ad, N, G, k, xf => nomatch h
  | .cmp _ _ _, C, e, h, X, ad, N, G, k, xf => nomatch h
  | .cmp2 _ _ _ _ _, C, e, h, X, ad, N, G, k, xf => nomatch h
  | .isN _, C, e, h, X, ad, N, G, k, xf => nomatch h
  | .notN _, C, e, h, X, ad, N, G, k, xf => nomatch h
  | .ife _ _ _, C, e, h, X, ad, N, G, k, xf => nomatch h
  | .tup _, C, e, h, X, ad, N, G, k, xf => nomatch h
  | .lst _, C, e, h, X, ad, N, G, k, xf => nomatch h
  | .dicE _, C, e, h, X, ad, N, G, k, xf => nomatch h
  | .call _ _, C, e, h, X, ad, N, G, k, xf => nomatch h
  | .callv _ _, C, e, h, X, ad, N, G, k, xf => nomatch h
  | .blt _ _, C, e, h, X, ad, N, G, k, xf => nomatch h
  | .isi _ _, C, e, h, X, ad, N, G, k, xf => nomatch h
  | .meth _ _ _, C, e, h, X, ad, N, G, k, xf => nomatch h
  | .ix _ _, C, e, h, X, ad, N, G, k, xf => nomatch h
  | .sl _ _ _, C, e, h, X, ad, N, G, k, xf => nomatch h
  | .rev _, C, e, h, X, ad, N, G, k, xf => nomatch h
  | .rng _, C, e, h, X, ad, N, G, k, xf => nomatch h
  | .enum _, C, e, h, X, ad, N, G, k, xf => nomatch h
  | .zip _ _, C, e, h, X, ad, N, G, k, xf => nomatch h
  | .items _, C, e, h, X, ad, N, G, k, xf => nomatch h
  | .vals _, C, e, h, X, ad, N, G, k, xf => nomatch h
  | .rvd _, C, e, h, X, ad, N, G, k, xf => nomatch h
  | .keys _, C, e, h, X, ad, N, G, k, xf => nomatch h
  | .lc _ _ _ _, C, e, h, X, ad, N, G, k, xf => nomatch h
  | .lc2 _ _ _ _ _ _ _, C, e, h, X, ad, N, G, k, xf => nomatch h
  | .dc _ _ _ _ _ _, C, e, h, X, ad, N, G, k, xf => nomatch h
  | .dpop _, C, e, h, X, ad, N, G, k, xf => nomatch h
  | .dlen _, C, e, h, X, ad, N, G, k, xf => nomatch h
  | .fstr _, C, e, h, X, ad, N, G, k, xf => nomatch h
  | .lrev _, C, e, h, X, ad, N, G, k, xf => nomatch h
  | .sset _, C, e, h, X, ad, N, G, k, xf => nomatch h
  | .lset _, C, e, h, X, ad, N, G, k, xf => nomatch h
  | .cmp3 _ _ _ _ _ _ _, C, e, h, X, ad, N, G, k, xf => nomatch h
  | .lvals _, C, e, h, X, ad, N, G, k, xf => nomatch h
  | .litems _, C, e, h, X, ad, N, G, k, xf => nomatch h
  | .lzip _ _, C, e, h, X, ad, N, G, k, xf => nomatch h
  | .dsp _ _ _, C, e, h, X, ad, N, G, k, xf => nomatch h
  | .fmt _, C, e, h, X, ad, N, G, k, xf => nomatch h
  | .rpr _, C, e, h, X, ad, N, G, k, xf => nomatch h
  | .dead, C, e, h, X, ad, N, G, k, xf => nomatch h
  | .and _, C, e, h, X, ad, N, G, k, xf => nomatch h
  | .or _, C, e, h, X, ad, N, G, k, xf => nomatch h
  | .not _, C, e, h, X, ad, N, G, k, xf => nomatch h
theorem ckI_snd : ∀ (c : CE) (C : Ct) (tg e : Expr), ckI c C tg e = true → ∀ {X : Cx} {ad : Option Addr} {N : En} {G : Cfg} {k : Nat} (xf : XF X ad N G k C) (pk : Bool), PI X tg e (tI (gd X ad) N pk (evI G c pk))
  | .rng es, C, tg, e, h, X, ad, N, G, k, xf, pk => by
    rw [ckI] at h
    split at h
    · rename_i n ls p q
      obtain rfl := vCall_inv q
      split at h
      · rename_i x p2 q2
        obtain rfl := vName_inv q2
        simp only [Bool.and_eq_true, decide_eq_true_eq, Bool.or_eq_true] at h
        obtain ⟨⟨⟨⟨⟨rfl, h2⟩, h3⟩, h4⟩, h5⟩, h6⟩ := h
        obtain ⟨g1, g2⟩ := blt_of xf h2
        have ih := ckLp_snd es C ls h6 xf
        cases ls with
        | nil => rcases h4 with (h4 | h4) | h4 <;> cases h4
        | cons a1 t =>
          rw [List.all_cons, Bool.and_eq_true] at h3
          cases t with
          | nil => exact i_rng1 (el := evLp G es) g1 g2 ih (fun env dr ds dr' e => evLp_len h5 e) (star_cons (by simpa using h3.1))
          | cons a2 t =>
            rw [List.all_cons, Bool.and_eq_true] at h3
            cases t with
            | nil => exact i_rng2 (el := evLp G es) g1 g2 ih (fun env dr ds dr' e => evLp_len h5 e) (by rw [star_cons (by simpa using h3.1), star_cons (by simpa using h3.2.1)]; rfl) (star_cons (by simpa using h3.2.1))
            | cons a3 t =>
              rw [List.all_cons, Bool.and_eq_true] at h3
              cases t with
              | nil => exact i_rng3 (el := evLp G es) g1 g2 ih (fun env dr ds dr' e => evLp_len h5 e) (star_cons (by simpa using h3.1)) (star_any (by rw [List.all_cons, List.all_cons, Bool.and_eq_true, Bool.and_eq_true]; exact ⟨h3.2.1, h3.2.2.1, rfl⟩))
              | cons a4 t => rcases h4 with (h4 | h4) | h4 <;> simp at h4
      · cases h
    · cases h
  | .enum a, C, tg, e, h, X, ad, N, G, k, xf, pk => by
    rw [ckI] at h
    split at h
    · rename_i n l p q
      obtain rfl := vCall_inv q
      split at h
      · rename_i x p2 q2
        obtain rfl := vName_inv q2
        simp only [Bool.and_eq_true, decide_eq_true_eq, Bool.not_eq_true'] at h
        obtain ⟨⟨⟨⟨rfl, h2⟩, h3⟩, h4⟩, h5⟩ := h
        obtain ⟨g1, g2⟩ := blt_of xf h2
        obtain ⟨⟨es, kk, tp⟩, q3⟩ := Option.isSome_iff_exists.mp h4
        obtain rfl := vTuple_inv q3
        exact i_enum (ea := evE G a pk) g1 g2 xf.calm (ckE_snd a C l h5 xf pk) (star_cons h3)
      · cases h
    · cases h
  | .zip a b, C, tg, e, h, X, ad, N, G, k, xf, pk => by
    rw [ckI] at h
    split at h
    · rename_i n l r p q
      obtain rfl := vCall_inv q
      split at h
      · rename_i x p2 q2
        obtain rfl := vName_inv q2
        simp only [Bool.and_eq_true, decide_eq_true_eq, Bool.not_eq_true'] at h
        obtain ⟨⟨⟨⟨⟨⟨rfl, h2⟩, h3⟩, h4⟩, h5⟩, h6⟩, h7⟩ := h
        obtain ⟨g1, g2⟩ := blt_of xf h2
        obtain ⟨⟨es, kk, tp⟩, q3⟩ := Option.isSome_iff_exists.mp h5
        obtain rfl := vTuple_inv q3
        exact i_zip (ea := evE G a pk) (eb := evE G b pk) g1 g2 xf.calm (ckE_snd a C l h6 xf pk) (ckE_snd b C r h7 xf pk) (star_cons h3) (star_cons h4) (star_any (by rw [List.all_cons, h4]; rfl))
      · cases h
    · cases h
  | .items a, C, tg, e, h, X, ad, N, G, k, xf, pk => by
    rw [ckI] at h
    split at h
    · rename_i n pos q
      obtain rfl := vCall_inv q
      split at h
      · rename_i r x apos q2
        obtain rfl := vAttribute_inv q2
        simp only [Bool.and_eq_true, decide_eq_true_eq, Bool.not_eq_true'] at h
        obtain ⟨⟨⟨⟨rfl, h1⟩, h2⟩, h3⟩, h4⟩ := h
        obtain ⟨⟨es, kk, tp⟩, q3⟩ := Option.isSome_iff_exists.mp h3
        obtain rfl := vTuple_inv q3
        exact i_items (ea := evE G a false) (ckE_snd a C r h4 xf false) (noSup h2) h1
      · cases h
    · cases h
  | .vals a, C, tg, e, h, X, ad, N, G, k, xf, pk => by
    rw [ckI] at h
    split at h
    · rename_i n pos q
      obtain rfl := vCall_inv q
      split at h
      · rename_i r x apos q2
        obtain rfl := vAttribute_inv q2
        simp only [Bool.and_eq_true, decide_eq_true_eq, Bool.not_eq_true'] at h
        obtain ⟨⟨⟨rfl, h1⟩, h2⟩, h4⟩ := h
        exact i_vals (ea := evE G a false) (ckE_snd a C r h4 xf false) (noSup h2) h1
      · cases h
    · cases h
  | .keys a, C, tg, e, h, X, ad, N, G, k, xf, pk => by
    rw [ckI] at h
    exact i_keys (ea := evE G a false) (ckE_snd a C e h xf false)
  | .cons c cs, C, tg, e, h, X, ad, N, G, k, xf, pk => by
    rw [ckI, Bool.and_eq_true] at h
    obtain rfl := isNil_eq h.1
    exact i_seq (ea := evE G c pk) (ckE_snd c C e h.2 xf pk)
  | .dead, C, tg, e, h, X, ad, N, G, k, xf, pk => dead_I fun _ _ => rfl
  | .var _, C, tg, e, h, X, ad, N, G, k, xf, pk => nomatch h
  | .non, C, tg, e, h, X, ad, N, G, k, xf, pk => nomatch h
  | .bl _, C, tg, e, h, X, ad, N, G, k, xf, pk => nomatch h
  | .int _, C, tg, e, h, X, ad, N, G, k, xf, pk => nomatch h
  | .str _, C, tg, e, h, X, ad, N, G, k, xf, pk => nomatch h
  | .glo _, C, tg, e, h, X, ad, N, G, k, xf, pk => nomatch h
  | .fnv _, C, tg, e, h, X, ad, N, G, k, xf, pk => nomatch h
  | .nil, C, tg, e, h, X, ad, N, G, k, xf, pk => nomatch h
  | .scons _ _, C, tg, e, h, X, ad, N, G, k, xf, pk => nomatch h
  | .bin _ _ _, C, tg, e, h, X, ad, N, G, k, xf, pk => nomatch h
  | .neg _, C, tg, e, h, X, ad, N, G, k, xf, pk => nomatch h
  | .cmp _ _ _, C, tg, e, h, X, ad, N, G, k, xf, pk => nomatch h
  | .cmp2 _ _ _ _ _, C, tg, e, h, X, ad, N, G, k, xf, pk => nomatch h
  | .isN _, C, tg, e, h, X, ad, N, G, k, xf, pk => nomatch h
  | .notN _, C, tg, e, h, X, ad, N, G, k, xf, pk => nomatch h
  | .ife _ _ _, C, tg, e, h, X, ad, N, G, k, xf, pk => nomatch h
  | .tup _, C, tg, e, h, X, ad, N, G, k, xf, pk => nomatch h
  | .lst _, C, tg, e, h, X, ad, N, G, k, xf, pk => nomatch h
  | .dicE _, C, tg, e, h, X, ad, N, G, k, xf, pk => nomatch h
  | .call _ _, C, tg, e, h, X, ad, N, G, k, xf, pk => nomatch h
  | .callv _ _, C, tg, e, h, X, ad, N, G, k, xf, pk => nomatch h
  | .blt _ _, C, tg, e, h, X, ad, N, G, k, xf, pk => nomatch h
  | .isi _ _, C, tg, e, h, X, ad, N, G, k, xf, pk => nomatch h
  | .meth _ _ _, C, tg, e, h, X, ad, N, G, k, xf, pk => nomatch h
  | .ix _ _, C, tg, e, h, X, ad, N, G, k, xf, pk => nomatch h
  | .sl _ _ _, C, tg, e, h, X, ad, N, G, k, xf, pk => nomatch h
  | .rev _, C, tg, e, h, X, ad, N, G, k, xf, pk => nomatch h
  | .rvd _, C, tg, e, h, X, ad, N, G, k, xf, pk => nomatch h
  | .lc _ _ _ _, C, tg, e, h, X, ad, N, G, k, xf, pk => nomatch h
  | .lc2 _ _ _ _ _ _ _, C, tg, e, h, X, ad, N, G, k, xf, pk => nomatch h
  | .dc _ _ _ _ _ _, C, tg, e, h, X, ad, N, G, k, xf, pk => nomatch h
  | .dpop _, C, tg, e, h, X, ad, N, G, k, xf, pk => nomatch h
  | .dlen _, C, tg, e, h, X, ad, N, G, k, xf, pk => nomatch h
  | .fstr _, C, tg, e, h, X, ad, N, G, k, xf, pk => nomatch h
  | .lrev _, C, tg, e, h, X, ad, N, G, k, xf, pk => nomatch h
  | .sset _, C, tg, e, h, X, ad, N, G, k, xf, pk => nomatch h
  | .lset _, C, tg, e, h, X, ad, N, G, k, xf, pk => nomatch h
  | .cmp3 _ _ _ _ _ _ _, C, tg, e, h, X, ad, N, G, k, xf, pk => nomatch h
  | .lvals _, C, tg, e, h, X, ad, N, G, k, xf, pk => nomatch h
  | .litems _, C, tg, e, h, X, ad, N, G, k, xf, pk => nomatch h
  | .lzip _ _, C, tg, e, h, X, ad, N, G, k, xf, pk => nomatch h
  | .dsp _ _ _, C, tg, e, h, X, ad, N, G, k, xf, pk => nomatch h
  | .fmt _, C, tg, e, h, X, ad, N, G, k, xf, pk => nomatch h
  | .rpr _, C, tg, e, h, X, ad, N, G, k, xf, pk => nomatch h
  | .and _, C, tg, e, h, X, ad, N, G, k, xf, pk => nomatch h
  | .or _, C, tg, e, h, X, ad, N, G, k, xf, pk => nomatch h
  | .not _, C, tg, e, h, X, ad, N, G, k, xf, pk => nomatch h
end
end Cr
/-! A def that is called within an except suite with the caught error. -/
namespace Cr
open PySem PySem.Spec PyProof.Rows L2 L2H

/-- a def's promise for the one caught error z -/
structure FnP (P : Program) (w : World) (K : PySem.W.Frag) (mg : Str → Option Value) (base : Heap) (CX : CXT) (k : Nat) (f : Addr) (fd : FuncData) (ps : List Str) (z : Addr × Obj) (sp : Sp) : Prop where
  go : ∀ (A : Around) (fr : List PySem.Env) (s : Shared) (H : Hp) (ag : Args) (us : List Value) (vs : List V) (Q : VK) (E : XK), RoomH k A → Hot1 A z → PinOk fr H s z → Env0 P w K mg base A fr s H → BindsTo s fd ag (ps.zip us) → vs.length = ps.length → Vals vs us → sp vs H Q E →
    codeAny (model P w) A (.call (.ref f) ag) (CR CX fr P w H s Q E) s
theorem fnP_of {CX : CXT} {P : Program} {w : World} {K : PySem.W.Frag} {mg : Str → Option Value} {base : Heap} {k : Nat} {x q : Str} {pr : Arguments} {bd : List Stmt} {sc : Scope} {f : Addr} {fd : FuncData} {N ps : List Str} {sp : Sp} {z : Addr × Obj}
    (F : FunD K x q pr bd sc [] [] f fd) (S : FnScope N ps sc)
    (body : ∀ (cd : Value) (A : Around) (fr : List PySem.Env) (s : Shared) (H : Hp) (vs : List V) (Q : VK) (E : XK), Hot1 A z → RoomH k (A.deeper (envOfC q sc s.heap.objs.size f cd)) → sp vs H Q E →
      ∃ t, PSs (cxH CX P w K mg base N q sc f cd A fr s H E z) bd t ∧ t { nx := fun _ H' => Q .non H', rt := Q } (L2.start N vs) H) : FnP P w K mg base CX (k + 1) f fd ps z sp := by
  obtain ⟨oc, od, dV, kV, doc, pm, an, cd, ct, osl, rfl, lk, hcd, _, _⟩ := F.ex
  refine ⟨fun A fr s H ag us vs Q E hr hot hz e0 hb hl r hsp => ?_⟩
  have KX : K.In s.heap := e0.mod.kin.keeps fun a o e => (e0.bs a o e).1
  have lim := e0.mod.nolimit.keeps fun a o e => (e0.bs a o e).1
  have hkind : ∀ y ∈ ps.zip us, sc.names.lookup y.1 = some .local ∨ (sc.names.lookup y.1 = some .cell ∧ ((cellsFrom (s.heap.objs.size + 1) sc.names []).lookup y.1).isSome = true) := fun ⟨n, v⟩ hy =>
    (S.par n (List.of_mem_zip hy).1).imp id fun c => ⟨c, PySem.W.cellsFrom_some _ _ _ (.inl c)⟩
  refine codeAny_call_function hr.depth (KX _ _ lk) rfl S.co S.gen rfl (PySem.W.codeRec_of KX hcd) (hb _ _ _ _ (wpAny_newFunctionEnv_cells S.kind hkind fun env he s1 y => ?_))
  subst he
  refine ⟨lim.keeps y.toInCall.keep, codeAny_func ?_⟩
  obtain ⟨t, ht, hq⟩ := body cd A fr s H vs Q E hot (hr.deeper _) hsp
  have J : Inv (cxH CX P w K mg base N q sc f cd A fr s H E z) [] (L2.start N vs) H s1 := inv_startH S hz e0 hl r y
  refine wpAny_mono (ht.run [] s1 (L2.start N vs) H _ J hq) (fun fl s2 hs => ?_) fun e s2 hs => hs
  cases fl with
  | ret u =>
    obtain ⟨v, σ2, H2, J2, rv, q2⟩ := hs
    exact ⟨v, H2, J2.os, J2.bare, J2.base, J2.hok, rv, q2⟩
  | next =>
    obtain ⟨σ2, H2, J2, q2⟩ := hs
    exact ⟨.non, H2, J2.os, J2.bare, J2.base, J2.hok, rfl, q2⟩
  | brk => exact hs.elim fun _ h => h.elim fun _ h => h.2.elim
  | cont => exact hs.elim fun _ h => h.elim fun _ h => h.2.elim
section
variable {X : Cx} {CX : CXT} {k : Nat} {f : Addr} {fd : FuncData} {ps : List Str} {sp : Sp} {E : L2.St → XK} {x : Str} {q pos : Pos} {e : Expr} {es : List Expr} {t : TA} {z : Addr × Obj}
theorem pe_callP (F : FnP X.prog X.w X.K X.mg X.base CX k f fd ps z sp) (hr : RoomH k X.A) (hot : Hot1 X.A z) (hz : z ∈ X.pn) (hg : Gl X x) (hm : X.mg x = some (.ref f)) (hk : PySem.W.keepIn X.K (.ref f) = true) (hb : Binds X.K fd ps []) (hx : ∀ σ, PassesAt CX X σ (E σ))
    (ha : PA X (e :: es) t) (hdb : (x == ("__debug__" : Str)) = false) (he : starEach (e :: es) X.env = (false, eval e X.env) :: starEach es X.env) (hpl : (backTo pos (starEach es X.env)).any (·.1) = false) :
    PE X (.Call (.Name x q) (e :: es) [] pos) (fun σ H Q => t σ H fun vs H1 => vs.length = ps.length ∧ sp vs H1 Q (E σ)) := by
  refine ⟨fun pins s σ H Q I h => wpAny_Call_Name_kw (ld_glob I hg hm ?_ hdb)⟩
  refine PySem.W.callWith_K (h₀ := X.base) I.ok.mod.kin hk (thn (ha.run pos pins s σ H _ I h) fun us s1 ⟨vs, H1, I1, r, hl, h1⟩ => ⟨I1.kIn, ?_⟩) he hpl
  have b := hb s1 us I1.kIn (by rw [List.append_nil, ← r.length]; exact hl)
  rw [List.append_nil] at b
  obtain ⟨p1, p2, p3, p4, p5⟩ := I1.pin z (List.mem_append_left _ hz)
  refine wpAny_call (codeAny_mono (F.go X.A X.stack s1 H1 ⟨us, []⟩ us vs Q (E σ) hr hot ⟨p1, p2, fun h => (List.mem_cons.mp (I1.stkSub z.1 h)).elim p3 p4, p5⟩ I1.env0 b hl r h1) fun rr s2 hq => ?_)
  match rr, hq with
  | .error e, hq => exact hx σ pins H1 s1 e s2 I1 hq
  | .ok (.ret u), hq => exact I1.after hq
  | .ok .next, hq => exact hq.elim
  | .ok .brk, hq => exact hq.elim
  | .ok .cont, hq => exact hq.elim
/-- isinstance of the pinned error -/
theorem isE_pin {a D : Addr} {ob : Obj} (C : ExcC X.K D) (hz : Zc (.ref D) none ob) (hf : ∃ vs, ob.data = .fields vs) (hp : (a, ob) ∈ X.pn) : CallR X (.builtin "isinstance") (rIsE X.K D a) := by
  intro pins s σ H xs us Q I r ⟨c, cv, b, ex, hcv, e, h⟩
  subst ex
  match us, r with
  | [_, u], .cons rx (.cons rt .nil) =>
    cases rx
    obtain rfl := hcv u rt
    have hget := (I.pin (a, ob) (List.mem_append_left _ hp)).1
    obtain ⟨vs, hv⟩ := hf
    have J : PySem.W.InstAt s.heap a ob D none := by
      obtain ⟨c1, d1, dt, sl⟩ := ob
      obtain ⟨h1, h2⟩ := hz
      cases (show c1 = _ from h1)
      cases (show d1 = _ from h2)
      cases (show dt = _ from hv)
      exact ⟨hget, rfl, rfl, trivial⟩
    exact PySem.W.kia_one (PySem.W.handS_kitx_exc C.hg C.hk C.hs C.hd C.ha C.hn C.ht C.hm) I.kIn J e (fun z => nomatch z) fun tk => ⟨.bl b, H, I.kept (t' := tk) fun _ _ z => z, rfl, h⟩
end
/-! ### flags of a caught error: [isinstance(e, A), isinstance(e, B), ..] -/
/-- the text's classes -/
def flNames (x : Str) : List Expr → Option (List Str)
  | [] => some []
  | e :: es => match vCall e with
    | some (n, [l, r], [], _) => (match vName n, vName l, vName r, flNames x es with
      | some (i, _), some (y, _), some (c, _), some cs => if i = ("isinstance" : Str) ∧ y = x then some (c :: cs) else none
      | _, _, _, _ => none)
    | _ => none
/-- the def's one row -/
def flBody (x : Str) : List Stmt → Option (List Str)
  | [s] => match wReturn s with
    | some (some e, _) => (match vList e with
      | some (es, _) => flNames x es
      | none => none)
    | _ => none
  | _ => none
/-- what is asked of the classes -/
def kits (K : PySem.W.Frag) (mg : Str → Option Value) (D : Addr) : List Str → List Bool → Prop
  | [], bs => bs = []
  | c :: cs, bs => ∃ b r C, bs = b :: r ∧ mg c = some (.ref C) ∧ PySem.W.kitOne K (.ref D) (.ref C) = some b ∧ kits K mg D cs r
def spFl (a : Addr) (bs : List Bool) : Sp := fun vs H Q _ => vs = [.ref a] ∧ ∀ p, H p = none → Q (.ref p) (upd H p (.lst (bs.map .bl)))
section
variable {X : Cx} {a D : Addr} {ob : Obj} {x : Str} {sc : Scope}
theorem fl_args (C : ExcC X.K D) (hz : Zc (.ref D) none ob) (hf : ∃ vs, ob.data = .fields vs) (hp : (a, ob) ∈ X.pn) (hv : ∀ p, PE X (.Name x p) (fun σ H Q => σ = [some (.ref a)] ∧ Q (.ref a) H)) (gi : Gl X "isinstance") (mi : X.mg "isinstance" = none) :
    ∀ (es : List Expr) (cs : List Str) (bs : List Bool), flNames x es = some cs → kits X.K X.mg D cs bs → (∀ c ∈ cs, Gl X c ∧ (c == ("__debug__" : Str)) = false) → PA X es (fun σ H Q => σ = [some (.ref a)] ∧ Q (bs.map .bl) H)
  | [], cs, bs, h, hk, _ => by
    cases h
    cases (show bs = [] from hk)
    exact PAw' pa_nil fun σ H Q h => h.2
  | e :: es, cs, bs, h, hk, hg => by
    have ih0 := fl_args C hz hf hp hv gi mi es
    unfold flNames at h
    split at h
    · rename_i n l r p q
      obtain rfl := vCall_inv q
      split at h
      · rename_i i p1 y p2 c p3 cs' q1 q2 q3 q4
        obtain rfl := vName_inv q1
        obtain rfl := vName_inv q2
        obtain rfl := vName_inv q3
        split at h
        · rename_i hh
          obtain ⟨rfl, rfl⟩ := hh
          cases h
          obtain ⟨b, r, C', rfl, e1, e2, e3⟩ := hk
          have ih := ih0 cs' r q4 e3 fun c hc => hg c (List.mem_cons_of_mem _ hc)
          obtain ⟨g1, g2⟩ := hg c List.mem_cons_self
          refine PAw' (pa_cons (pe_callB (isE_pin C hz hf hp) gi mi (by decide +kernel) (pa_cons (hv p2) (pa_cons (pe_glob (v := .ref C') g1 e1 rfl g2) pa_nil))) ih) fun σ H Q ⟨h1, h2⟩ => ?_
          exact ⟨h1, .ref C', .ref C', b, rfl, fun u hu => hu, e2, h1, h2⟩
        · cases h
      · cases h
    · cases h
end
end Cr
/-! Statements held against the program's text. -/
namespace Cr
open PySem PySem.Spec PyProof.Rows L2 L2H

section
variable {X : Cx} {a D : Addr} {ob : Obj} {K : PySem.W.Frag}
theorem fl_ok {P : Program} {w : World} {mg : Str → Option Value} {base : Heap} {f x : Str} {pr : Arguments} {bd : List Stmt} {sc : Scope} {fa : Addr} {fd : FuncData} {cs : List Str} {bs : List Bool}
    (F : FunD K f f pr bd sc [] [] fa fd) (S : FnScope [x] [x] sc) (hb : flBody x bd = some cs) (C : ExcC K D) (hz : Zc (.ref D) none ob) (hf : ∃ vs, ob.data = .fields vs) (hk : kits K mg D cs bs)
    (gi : sc.names.lookup ("isinstance" : Str) = some .globalImplicit) (gc : ∀ c ∈ cs, sc.names.lookup c = some .globalImplicit ∧ (c == ("__debug__" : Str)) = false) (gx : visB sc x = true ∧ (x == ("__debug__" : Str)) = false ∧ (x == ("__classdict__" : Str)) = false) (mi : mg "isinstance" = none) (hl : bs.length ≤ sizeLine) :
    FnP P w K mg base (L2N.CX P w) 1 fa fd [x] (a, ob) (spFl a bs) := by
  refine fnP_of F S fun cd A fr s H vs Q E hot hr ⟨e1, hq⟩ => ?_
  subst e1
  match bd, hb, F with
  | [], hb, _ => cases hb
  | _ :: _ :: _, hb, _ => cases hb
  | [s0], hb0, F =>
    clear hb
    have hb : (match wReturn s0 with
      | some (some e, _) => (match vList e with
        | some (es, _) => flNames x es
        | none => none)
      | _ => none) = some cs := hb0
    clear hb0
    split at hb
    · rename_i e p q
      obtain rfl := wReturn_inv q
      split at hb
      · rename_i es p2 q2
        obtain rfl := vList_inv q2
        refine ⟨_, pss_cons (ps_ret (pe_lst (fl_args (X := cxH (L2N.CX P w) P w K mg base [x] f sc fa cd A fr s H E (a, ob)) (x := x) C hz hf (List.mem_singleton.mpr rfl) (fun p => PEw' (pe_var (i := 0) rfl (vis_of gx.1) gx.2.1 gx.2.2) fun σ H Q h => ?_) gi mi es cs bs hb hk gc))) pss_never, ?_⟩
        · obtain ⟨rfl, h⟩ := h
          exact ⟨.ref a, rfl, h⟩
        · exact ⟨rfl, by rw [List.length_map]; exact hl, fun p hp => hq p hp⟩
      · cases hb
    · cases hb
end
end Cr
namespace Cr
open PySem PySem.Spec PyProof.Rows L2 L2H

/-! ### the check of blocks -/
def isLc : CE → Bool
  | .lc .. => true
  | _ => false
def isFr : CE → Bool
  | .lc .. => true
  | .lst _ => true
  | .dicE _ => true
  | .bin .. => true
  | .blt .. => true
  | .sl .. => true
  | .lrev .. => true
  | _ => false
/-- the comprehension's stores are exchanged -/
def swB (i : Nat) (C : Ct) (tg v : Expr) : Bool := match vName tg, vListComp v with
  | some (t, py), some (_, _, s, lp) => decide (C.N[i]? = some t) && decide (C.sc.names.lookup t = some .local) && decide (C.sc.kind = .function) && (py.line == lp.line) && !(s.names.any fun (n, k) => n == t && (k == .local || k == .cell))
  | _, _ => false
/-- a comprehension, but its stores are not exchanged -/
def noSw (C : Ct) (tg v : Expr) : Bool := !isComp v || (match vName tg with
  | some (t, _) => !decide (C.sc.names.lookup t = some .local)
  | none => true)
def rowB (tg v : Expr) : Bool := !isRow tg || (match vTuple v with
  | some (vs, _, _) => vs.all (foldedForSure 8)
  | none => true)
def starB : Expr → Bool
  | .Starred .. => true
  | _ => false
def isBrk : List Stmt → Bool
  | .Break _ :: _ => true
  | _ => false
def isCnt : List Stmt → Bool
  | .Continue _ :: _ => true
  | _ => false
theorem isBrk_eq {ss : List Stmt} (h : isBrk ss = true) : ∃ p r, ss = .Break p :: r := by
  unfold isBrk at h
  split at h
  · exact ⟨_, _, rfl⟩
  · cases h
theorem isCnt_eq {ss : List Stmt} (h : isCnt ss = true) : ∃ p r, ss = .Continue p :: r := by
  unfold isCnt at h
  split at h
  · exact ⟨_, _, rfl⟩
  · cases h
def ckLo : List (Nat × Bool) → CE → Ct → List Expr → Bool
  | [], .nil, _, es => es.isEmpty
  | (_, o) :: is, .cons c cs, C, es => (match es with
    | e :: es => !isStar e && (!o || isFr c) && ckE c C e && ckLo is cs C es
    | [] => false)
  | _, _, _, _ => false
/-- two names side by side -/
def par2B (C : Ct) (i j : Nat) (x y : Str) (px py : Pos) (e1 e2 : Expr) : Bool := decide (C.sc.kind = .function) && decide (C.N[i]? = some x) && decide (C.N[j]? = some y) && !decide (i = j) && !(x == y) && !(y == x) && decide (C.sc.names.lookup x = some .local) && decide (C.sc.names.lookup y = some .local) && (px.line == px.line) && (py.line == px.line) &&
  !isStar e1 && !isStar e2 && !([e1, e2].all (foldedForSure 8)) && !([e1, e2].all (constantsAlone 8))
def par3B (C : Ct) (i j m : Nat) (x y z : Str) (px py pz : Pos) (e1 e2 e3 : Expr) : Bool := decide (C.sc.kind = .function) && decide (C.N[i]? = some x) && decide (C.N[j]? = some y) && decide (C.N[m]? = some z) && !decide (i = j) && !decide (i = m) && !decide (j = m) && !(x == y) && !(x == z) && !(y == z) &&
  decide (C.sc.names.lookup x = some .local) && decide (C.sc.names.lookup y = some .local) && decide (C.sc.names.lookup z = some .local) && (px.line == px.line) && (py.line == px.line) && (pz.line == px.line) &&
  !isStar e1 && !isStar e2 && !isStar e3 && !([e1, e2, e3].all (foldedForSure 8)) && !([e1, e2, e3].all (constantsAlone 8))
def ckB : CS → Ct → List Stmt → Bool
  | .done, _, ss => ss.isEmpty
  | .dead, _, _ => true
  | .frz _ k, C, ss => ckB k C ss
  | .wip _ k, C, ss => ckB k C ss
  | .setI i x e k, C, ss => (match ss with
    | s :: ss => (match wAssign s with
      | some ([tg], v, _) => (match vSubscript tg with
        | some (o, ix, _) => isVar i C o && !isSlice ix && ckE x C ix && ckE e C v && ckB k C ss
        | none => false)
      | _ => false)
    | [] => false)
  | .ext i e k, C, ss => (match ss with
    | s :: ss => (match wExpr s with
      | some (x, _) => (match vCall x with
        | some (n, [l], [], pos) => (match vAttribute n with
          | some (r, y, apos) => decide (y = ("extend" : Str)) && (apos.endLine == pos.line) && isVar i C r && !isStar l && ckE e C l && ckB k C ss
          | none => false)
        | _ => false)
      | none => false)
    | [] => false)
  | .parO is es k, C, ss => (match ss with
    | s :: ss => (match wAssign s with
      | some ([tg], v, _) => (match vTuple tg, vTuple v with
        | some (ts, _, _), some (vs, _, _) => (match is, ts, vs with
          | [(i, _), (j, _)], [n1, n2], [e1, e2] => (match vName n1, vName n2 with
            | some (x, px), some (y, py) => par2B C i j x y px py e1 e2 && ckLo is es C vs && ckB k C ss
            | _, _ => false)
          | [(i, _), (j, _), (m, _)], [n1, n2, n3], [e1, e2, e3] => (match vName n1, vName n2, vName n3 with
            | some (x, px), some (y, py), some (z, pz) => par3B C i j m x y z px py pz e1 e2 e3 && ckLo is es C vs && ckB k C ss
            | _, _, _ => false)
          | _, _, _ => false)
        | _, _ => false)
      | _ => false)
    | [] => false)
  | .aug i op e k, C, ss => (match ss with
    | s :: ss => (match wAugAssign s with
      | some (tg, o, v, _) => (match vName tg with
        | some (x, _) => decide (o = pyOp op) && decide (C.N[i]? = some x) && locB C.sc x && fnB C x && ckE e C v && ckB k C ss
        | none => false)
      | none => false)
    | [] => false)
  | .whl c b k, C, ss => (match ss with
    | s :: ss => (match wWhile s with
      | some (c', b', [], _) => ckT c C c' && ckB b C b' && ckB k C ss
      | _ => false)
    | [] => false)
  | .ex e k, C, ss => (match ss with
    | s :: ss => (match wExpr s with
      | some (x, _) => !isComp x && ckE e C x && ckB k C ss
      | none => false)
    | [] => false)
  | .asg p e k, C, ss => (match ss with
    | s :: ss => (match wAssign s with
      | some ([tg], v, _) => (if noSw C tg v then !isStar tg && ckP p C tg && rowB tg v else (match p with
          | .nm i => swB i C tg v && isLc e
          | _ => false)) && ckE e C v && ckB k C ss
      | _ => false)
    | [] => false)
  | .own i e k, C, ss => (match ss with
    | s :: ss => (match wAssign s with
      | some ([tg], v, _) => (if noSw C tg v then isFr e && ckP (.nm i) C tg else swB i C tg v && isLc e) && ckE e C v && ckB k C ss
      | _ => false)
    | [] => false)
  | .par i j a b k, C, ss => (match ss with
    | s :: ss => (match wAssign s with
      | some ([tg], v, _) => (match vTuple tg, vTuple v with
        | some ([n1, n2], _, _), some ([e1, e2], _, _) => (match vName n1, vName n2 with
          | some (x, px), some (y, py) => decide (C.sc.kind = .function) && decide (C.N[i]? = some x) && decide (C.N[j]? = some y) && !decide (i = j) && !(x == y) && !(y == x) && decide (C.sc.names.lookup x = some .local) && decide (C.sc.names.lookup y = some .local) && (px.line == px.line) && (py.line == px.line) &&
              !isStar e1 && !isStar e2 && !([e1, e2].all (foldedForSure 8)) && !([e1, e2].all (constantsAlone 8)) && ckE a C e1 && ckE b C e2 && ckB k C ss
          | _, _ => false)
        | _, _ => false)
      | _ => false)
    | [] => false)
  | .ifs c a b k, C, ss => (match ss with
    | s :: ss => (match wIf s with
      | some (c', a', b', _) => ckT c C c' && ckB a C a' && ckB b C b' && ckB k C ss
      | none => false)
    | [] => false)
  | .for_ p it b k, C, ss => (match ss with
    | s :: ss => (match wFor s with
      | some (tg, it', b', [], _) => !isSet it' && ckP p C tg && ckI it C tg it' && ckB b C b' && ckB k C ss
      | _ => false)
    | [] => false)
  | .forD p i b k, C, ss => (match ss with
    | s :: ss => (match wFor s with
      | some (tg, it', b', [], _) => isVar i C it' && ckP p C tg && ckB b C b' && ckB k C ss
      | _ => false)
    | [] => false)
  | .app i e k, C, ss => (match ss with
    | s :: ss => (match wExpr s with
      | some (x, _) => (match vCall x with
        | some (n, [l], [], pos) => (match vAttribute n with
          | some (r, y, apos) => decide (y = ("append" : Str)) && (apos.endLine == pos.line) && isVar i C r && !isStar l && ckE e C l && ckB k C ss
          | none => false)
        | _ => false)
      | none => false)
    | [] => false)
  | .brk, _, ss => isBrk ss
  | .cnt, _, ss => isCnt ss
  | .ret e, C, ss => (match ss with
    | s :: _ => (match wReturn s with
      | some (some x, _) => ckE e C x
      | _ => false)
    | [] => false)
  | .ret0, _, ss => (match ss with
    | s :: _ => (match wReturn s with
      | some (none, _) => true
      | _ => false)
    | [] => false)
  | .rse x e, C, ss => (match ss with
    | s :: _ => (match wRaise s with
      | some (some r, none, _) => (match vCall r with
        | some (n, [m], [], _) => (match vName n, vConstant m with
          | some (y, _), some (.str _, _, _) => isNil e && decide (y = x) && gloB C x && C.exc.contains x
          | _, _ => false)
        | _ => false)
      | _ => false)
    | [] => false)
  | .tryF x f i b k, C, ss => (match ss with
    | s :: ss => (match wTry s with
      | some (b', [.ExceptHandler (some cl) (some n) [st] _], [], [], _) => (match vName cl, wReturn st with
        | some (y, _), some (some rv, _) => (match vCall rv with
          | some (g, [ar], [], _) => (match vName g, vName ar with
            | some (g', _), some (n', _) => decide (y = x) && gloB C x && C.tcl.contains x && decide (g' = f) && gloB C f && C.flg.contains f && decide (n' = n) && decide (C.N[i]? = some n) && decide (C.sc.names.lookup n = some .local) && !(n == ("__debug__" : Str)) && !(n == ("__classdict__" : Str)) &&
                ckB b C b' && ckB k C ss
            | _, _ => false)
          | _ => false)
        | _, _ => false)
      | _ => false)
    | [] => false)
  | _, _, _ => false

/-! ### where statements stand -/
structure XS (X : Cx) (ad : Option Addr) (N : En) (G : Cfg) (k : Nat) (C : Ct) : Prop extends XF X ad N G k C where
  one : 1 ≤ k
  raw : C.raw = none
  stk : X.stack = X.env :: X.outer
  frm : X.env.frame = some X.env.locals
  own : PassesOwn (model X.prog X.w) X.A X.env X.xe
  tk2 : L2N.Takes X N.W
  exc : ∀ x, C.exc.contains x = true → ∃ (Ca : Addr) (B n i : String) (bm : List Value), ExcBaseFacts B n i bm ∧ PySem.W.excIn X.K Ca bm n = true ∧ X.mg x = some (.ref Ca) ∧ PySem.W.keepIn X.K (.ref Ca) = true ∧ Raises X (.ref Ca)
  sub : ∀ x, C.tcl.contains x = true → ∃ c, (X.mg x = some c ∨ (X.mg x = none ∧ bootBuiltins x = some c ∧ x ≠ "__name__")) ∧ ∀ e b cls, G.sub e x = some b → X.mg e = some cls → PySem.W.exmOne X.K cls c = some b
  flg : ∀ f, C.flg.contains f = true → ∃ (fa : Addr) (fd : FuncData) (y : Str), X.mg f = some (.ref fa) ∧ PySem.W.keepIn X.K (.ref fa) = true ∧ Binds X.K fd [y] [] ∧ ∀ cls d D, G.flg f cls = some d → X.mg cls = some D → 1 ≤ k ∧ ∃ (Da : Addr) (bs : List Bool), D = .ref Da ∧ d = .lst (bs.map .bl) ∧ bs.length ≤ sizeLine ∧
    ∀ (a : Addr) (ob : Obj), Zc (.ref Da) none ob → (∃ vs, ob.data = .fields vs) → FnP X.prog X.w X.K X.mg X.base (L2N.CX X.prog X.w) 1 fa fd [y] (a, ob) (spFl a bs)
section
variable {X : Cx} {ad : Option Addr} {N : En} {G : Cfg} {k : Nat} {C : Ct}
theorem XS.tr (xs : XS X ad N G k C) {W : WX} {pn : List (Addr × Obj)} {xe : Value → Shared → Prop} (t : L2N.Takes (X.tr pn xe) W) (o : PassesOwn (model X.prog X.w) X.A X.env xe) : XS (X.tr pn xe) ad ⟨N.F0, N.H0, W⟩ G k C where
  calm := xs.calm
  nd := xs.nd
  eN := xs.eN
  sc := xs.sc
  room := xs.room
  fns := fun x n h => by
    obtain ⟨fn, e, g⟩ := xs.fns x n h
    exact ⟨fn, e, ⟨g.ex⟩⟩
  mgb := xs.mgb
  arOk := xs.arOk
  cons := xs.cons
  tk := fun σ => L2N.passAt t σ
  top := xs.top
  blk := xs.blk
  one := xs.one
  raw := xs.raw
  stk := xs.stk
  frm := xs.frm
  own := o
  tk2 := t
  exc := xs.exc
  sub := xs.sub
  flg := xs.flg
theorem XS.loc (xs : XS X ad N G k C) (x : Str) : X.fn x = true := xs.top xs.raw x
end
/-! ### side conditions -/
theorem swaps_no {env : PySem.Env} {v : Expr} {t : Option Expr} {l : Nat} (h : isComp v = false) : swapsWith v t l env = pure false := by
  cases v <;> first | rfl | cases h
theorem noSw_ok {C : Ct} {env : PySem.Env} {tg v : Expr} {l : Nat} (hs : env.scope = C.sc) (hst : isStar tg = false) (h : noSw C tg v = true) : swapsWith v (some tg) l env = pure false := by
  unfold noSw at h
  rw [Bool.or_eq_true] at h
  rcases h with h | h
  · exact swaps_no (by simpa using h)
  · cases q : vName tg with
    | none =>
      cases tg <;> first | (cases q; done) | (cases v <;> rfl)
    | some tt =>
      obtain ⟨t, p⟩ := tt
      obtain rfl := vName_inv q
      rw [q] at h
      have h : (!decide (C.sc.names.lookup t = some .local)) = true := h
      have h1 : ¬ C.sc.names.lookup t = some .local := by simpa using h
      have h2 : (env.kindOf t == some .local) = false := by
        show (env.scope.names.lookup t == some .local) = false
        rw [hs]
        simpa using h1
      have key : ∀ (b c : Bool), ((env.blockKind == .function && env.kindOf t == some .local && b) && c) = false := fun b c => by
        rw [h2]
        simp
      cases v <;> first | rfl | exact congrArg pure (key _ _)
theorem stores_no {env : PySem.Env} {tg v : Expr} (h : rowB tg v = true) : swappedStores [tg] v env = pure none := by
  unfold rowB at h
  rw [Bool.or_eq_true] at h
  rcases h with h | h
  · cases tg <;> first | rfl | cases h
  · cases v <;> first | (cases tg <;> rfl) | skip
    rename_i vs k p
    have h : vs.all (foldedForSure 8) = true := h
    cases tg <;> first | rfl | (unfold swappedStores; dsimp only; repeat' split) <;> first | rfl | (rw [if_pos h]; rfl) | (exfalso; contradiction)
theorem sole_asg {env : PySem.Env} {tg : Expr} (h : isStar tg = false) : (assignEach [tg] env).map (·.2) = [assign tg env] := by
  cases tg <;> first | rfl | cases h
end Cr
namespace Cr
open PySem PySem.Spec PyProof.Rows L2 L2H

theorem upd_id {H : Hp} {p : Addr} {o : HO} (h : H p = some o) : upd H p o = H := by
  funext b
  by_cases hb : b = p
  · subst hb; rw [upd_same, h]
  · rw [upd_ne hb]
theorem StR.frz {g : Gd} {F0 H0 F H : Hp} {dr : List Int} {σ : L2.St} {env : Env} {i : Nat} {d : D} {p : Addr} {o : HO} (st : StR g F0 H0 σ env F H dr) (h : get env i = .own d) (hp : σ[i]? = some (some (.ref p))) (rep : ∀ F', F' p = some o → Sub F F' → Rep g F' d (.ref p)) : Sub F (upd F p o) ∧ StR g F0 H0 σ (env.set i (.val d)) (upd F p o) (upd H p o) dr := by
  have sl := st.slot i
  rw [h] at sl
  obtain ⟨p', e, f, h0, n, r⟩ := sl
  rw [hp] at e
  cases e
  have hi : i < env.length := by
    by_cases hi : i < env.length
    · exact hi
    · unfold get at h
      rw [List.getD_eq_getElem?_getD, List.getElem?_eq_none (by omega)] at h
      cases h
  refine ⟨sub_upd f, (st.po.mut h0 f n).frz h0 f n upd_same, by rw [List.length_set]; exact st.len, fun j => ?_, fun j l d' e' q h1 h2 h3 h4 => ?_⟩
  · rw [get_set]
    by_cases hj : i = j
    · subst hj
      rw [if_pos ⟨rfl, hi⟩]
      exact ⟨.ref p, hp, rep _ upd_same (sub_upd f)⟩
    · rw [if_neg (fun z => hj z.1)]
      have s2 := st.slot j
      cases q : get env j with
      | no => trivial
      | val d2 =>
        rw [q] at s2
        obtain ⟨v, e2, r2⟩ := s2
        exact ⟨v, e2, Rep.mono (sub_upd f) _ _ r2⟩
      | own d2 =>
        rw [q] at s2
        obtain ⟨p2, e2, f2, h2, n2, r2⟩ := s2
        have hne : p2 ≠ p := fun z => by
          subst z
          exact hj (st.apart i j d d2 p2 h q hp e2)
        exact ⟨p2, e2, by rw [upd_ne hne]; exact f2, h2, n2, r2.mono (sub_upd f) fun _ z => by rw [upd_ne hne]; exact z⟩
  · rw [get_set] at h1 h2
    by_cases hj : i = j
    · rw [if_pos ⟨hj, hi⟩] at h1
      cases h1
    · by_cases hl : i = l
      · rw [if_pos ⟨hl, hi⟩] at h2
        cases h2
      · rw [if_neg (fun z => hj z.1)] at h1
        rw [if_neg (fun z => hl z.1)] at h2
        exact st.apart j l d' e' q h1 h2 h3 h4
theorem reps_bls {g : Gd} {F : Hp} : ∀ bs : List Bool, Reps g F (bs.map .bl) (bs.map .bl)
  | [] => rfl
  | b :: bs => Reps.cons rfl (reps_bls bs)
section
variable {X : Cx} {ad : Option Addr} {N : En} {pk : Bool} {pos : Pos} {e l r : Expr} {rest : List Stmt} {σ : L2.St} {H F : Hp} {env : Env} {dr : List Int} {D0 : Ends}
theorem post_up {D : Ends} {F F1 : Hp} {rr : Res Fl} (s : Sub F F1) (h : rr.post (FlP (gd X ad) N D F) (EXs (gd X ad) N)) : rr.post (FlP (gd X ad) N D F1) (EXs (gd X ad) N) := h.imp (fun f dr z => z.up s f dr) fun _ _ z => z
theorem s_frz {i : Nat} {ss : List Stmt} {ek : Env → List Int → Res Fl} (hk : PSs X ss (tS (gd X ad) N ek)) : PSs X ss (tS (gd X ad) N (fun env dr => (ofO ((frzS (get env i)).bind (setSl env i)) dr).bind fun env dr => ek env dr)) := by
  refine ⟨fun pins s σ H D1 I ⟨env, F, dr, st, h⟩ => ?_⟩
  obtain ⟨env', e1, k2⟩ := post_ofO (post_bind h)
  cases q : get env i with
  | no => rw [q] at e1; cases e1
  | val d =>
    rw [q] at e1
    have e2 : (if i < env.length then some (env.set i (.val d)) else none) = some env' := e1
    split at e2
    · rename_i hl
      cases e2
      have sl := st.slot i
      rw [q] at sl
      obtain ⟨v, e3, r⟩ := sl
      have st2 := st.setV hl r
      have hs : σ.set i (some v) = σ := by
        refine List.ext_getElem? fun j => ?_
        by_cases hj : i = j
        · subst hj
          rw [List.getElem?_set_self (by rw [st.len]; exact hl), e3]
        · rw [List.getElem?_set_ne hj]
      rw [hs] at st2
      exact hk.run pins s σ H D1 I ⟨_, F, dr, st2, k2⟩
    · cases e2
  | own d =>
    rw [q] at e1
    have e2 : (if i < env.length then some (env.set i (.val d)) else none) = some env' := e1
    split at e2
    · cases e2
      have sl := st.slot i
      rw [q] at sl
      obtain ⟨p, e, f, h0, n, r⟩ := sl
      cases d with
      | lst ds =>
        obtain ⟨l, vs, ho, rr⟩ := r
        obtain ⟨sb, st2⟩ := st.frz (o := .lst vs) q e fun F' hF sF => ⟨l, p, vs, rfl, hF, Reps.mono sF _ _ rr⟩
        rw [upd_id ho] at st2
        exact hk.run pins s σ H D1 I ⟨_, _, dr, st2, post_up sb k2⟩
      | dicK ks ds =>
        obtain ⟨nd, l, l2, vs, ho, rr⟩ := r
        obtain ⟨od, I2⟩ := I.lock ho trivial
        obtain ⟨sb, st2⟩ := st.frz (o := .frz od (.dK (ks.zip vs))) q e fun F' hF sF => ⟨nd, l, l2, p, vs, od, rfl, hF, Reps.mono sF _ _ rr⟩
        exact hk.run pins s σ _ D1 I2 ⟨_, _, dr, st2, post_up sb k2⟩
      | dicT ks ds =>
        obtain ⟨nd, l, l2, vs, ho, rr⟩ := r
        obtain ⟨od, I2⟩ := I.lock ho trivial
        obtain ⟨sb, st2⟩ := st.frz (o := .frz od (.dT (ks.zip vs))) q e fun F' hF sF => ⟨nd, l, l2, p, vs, od, rfl, hF, Reps.mono sF _ _ rr⟩
        exact hk.run pins s σ _ D1 I2 ⟨_, _, dr, st2, post_up sb k2⟩
      | _ => exact r.elim
    · cases e2
theorem s_par {i j : Nat} {x y : Str} {a b : Expr} {px py pt pt2 : Pos} {kt k2 : Nat} {ea eb : Env → List Int → Res D} {ek : Env → List Int → Res Fl} (hc : X.calm = true) (hN : X.N.Nodup) (hi : X.N[i]? = some x) (hj : X.N[j]? = some y) (hij : i ≠ j)
    (hx : X.env.scope.names.lookup x = some .local) (hy : X.env.scope.names.lookup y = some .local) (ha : PE X a (tM (gd X ad) N false ea)) (hb : PE X b (tM (gd X ad) N false eb)) (s1 : isStar a = false) (s2 : isStar b = false)
    (hw : swappedStores [.Tuple [.Name x px, .Name y py] kt pt] (.Tuple [a, b] k2 pt2) X.env = pure (some [x, y])) (hk : PSs X rest (tS (gd X ad) N ek)) :
    PSs X (.Assign [.Tuple [.Name x px, .Name y py] kt pt] (.Tuple [a, b] k2 pt2) pos :: rest) (tS (gd X ad) N (fun env dr => (ea env dr).bind fun x dr => (eb env dr).bind fun y dr =>
      (ofO ((setSl env i (.val x)).bind fun env => setSl env j (.val y)) dr).bind fun env dr => ek env dr)) :=
  PSsw' (pss_cons (ps_par hc hN hi hj hij hx hy (a_cons ha (a_cons hb a_nil (star_cons s2)) (star_cons s1)) hw) hk) fun D1 σ H ⟨env, F, dr, st, h⟩ => by
    have e0 : ∀ {KK : D → D → List Int → Res Fl}, ((ea env dr).bind fun x dr => (eb env dr).bind fun y dr => KK x y dr) = (((ea env dr).bind fun d dr => ((eb env dr).bind fun d dr => ((Res.ok [] dr).bind fun ds dr => Res.ok (d :: ds) dr)).bind fun ds dr => .ok (d :: ds) dr)).bind fun ds dr => match ds with
      | [x, y] => KK x y dr
      | _ => .bad := by
      intro KK
      cases ea env dr with
      | ok x dr1 =>
        rw [Res.bind_ok, Res.bind_ok]
        cases eb env dr1 <;> rfl
      | exc _ _ => rfl
      | bad => rfl
    dsimp only at h
    rw [e0] at h
    refine sA (R := fun vs H1 => ∃ v w, vs = [v, w] ∧ tS (gd X ad) N ek D1 ((σ.set i (some v)).set j (some w)) H1) st h fun ds dr1 vs H1 F1 st1 _ rs k => ?_
    match ds, k with
    | [], k => exact k.elim
    | [_], k => exact k.elim
    | _ :: _ :: _ :: _, k => exact k.elim
    | [x, y], k =>
      obtain ⟨v, t, rfl, r1, t1⟩ := rs
      obtain ⟨w, t2, rfl, r2, t3⟩ := t1
      cases (show t2 = [] from t3)
      obtain ⟨env', e1, k2⟩ := post_ofO (post_bind k)
      refine ⟨v, w, rfl, ?_⟩
      have e2 : (if i < env.length then some (env.set i (.val x)) else none).bind (fun env => if j < env.length then some (env.set j (.val y)) else none) = some env' := e1
      by_cases hi : i < env.length
      · rw [if_pos hi] at e2
        have e3 : (if j < (env.set i (.val x)).length then some ((env.set i (.val x)).set j (.val y)) else none) = some env' := e2
        split at e3
        · rename_i hj
          cases e3
          exact ⟨_, F1, dr1, (st1.setV hi r1).setV hj r2, k2⟩
        · cases e3
      · rw [if_neg hi] at e2
        cases e2
theorem s_rse {x m : Str} {j : Nat} {p p2 pos' : Pos} {G : Cfg} {k : Nat} {C : Ct} (xs : XS X ad N G k C) (h1 : gloB C x = true) (h2 : C.exc.contains x = true) :
    PSs X (.Raise (some (.Call (.Name x p) [.Constant (.str m) j p2] [] pos)) none pos' :: rest) (tS (gd X ad) N (fun _ dr => .exc ⟨x, none⟩ dr)) := by
  obtain ⟨Ca, B, n, i, bm, f1, f2, f3, f4, f5⟩ := xs.exc x h2
  obtain ⟨g1, g2, _⟩ := gl_of xs.toXF h1
  exact PSsw' (pss_cons (L2N.ps_raise xs.calm xs.tk2 (L2N.pmk_own f1 f2 f3 f4 f5 g1 g2)) pss_never) fun D σ H ⟨env, F, dr, st, h⟩ => h (.ref Ca) none σ H F st.po ⟨f3, rfl⟩
/-- the reading of a suite that gives a caught error's flags -/
def tFl (P : Program) (w : World) (K : PySem.W.Frag) (mg : Str → Option Value) (base : Heap) (fa : Addr) (fd : FuncData) (y : Str) (i : Nat) : Addr → Value → Option Addr → TS := fun a cls d D σ H => ∃ (Da : Addr) (bs : List Bool) (σ0 : L2.St), cls = .ref Da ∧ d = none ∧ σ = σ0.set i (some (.ref a)) ∧
  (∀ ob : Obj, Zc (.ref Da) none ob → (∃ vs, ob.data = .fields vs) → FnP P w K mg base (L2N.CX P w) 1 fa fd [y] (a, ob) (spFl a bs)) ∧ ∀ p, H p = none → D.rt (.ref p) (upd H p (.lst (bs.map .bl)))
theorem suite_fl {a : Addr} {ob : Obj} {cls : Value} {d : Option Addr} {pn : List (Addr × Obj)} {fa : Addr} {fd : FuncData} {y f n : Str} {i : Nat} {p1 p2 p3 p4 : Pos} (hr : Room 1 X.A) (hi : X.N[i]? = some n) (hv : Vis X.env.scope n) (hd : (n == ("__debug__" : Str)) = false) (hd2 : (n == ("__classdict__" : Str)) = false)
    (hg : Gl X f) (hdb : (f == ("__debug__" : Str)) = false) (hm : X.mg f = some (.ref fa)) (hk : PySem.W.keepIn X.K (.ref fa) = true) (hb : Binds X.K fd [y] []) (hz : L2N.Zn cls d ob) (hf : ∃ vs, ob.data = .fields vs) :
    PSs (X.suite a ((a, ob) :: pn)) [.Return (some (.Call (.Name f p1) [.Name n p2] [] p3)) p4] (tFl X.prog X.w X.K X.mg X.base fa fd y i a cls d) := by
  refine ⟨fun pins s σ H D I ⟨Da, bs, σ0, e1, e2, e3, F, q⟩ => ?_⟩
  subst e1 e2 e3
  obtain ⟨vs, hvs⟩ := hf
  have hot : Hot1 (X.suite a ((a, ob) :: pn)).A (a, ob) := ⟨rfl, vs, hvs, hz.2.2 vs hvs⟩
  have hl := I.len
  have hin : i < σ0.length := by
    rw [List.length_set] at hl
    rw [hl]
    exact (List.getElem?_eq_some_iff.mp hi).1
  refine (pss_cons (ps_ret (pe_callP (X := X.suite a ((a, ob) :: pn)) (CX := L2N.CX X.prog X.w) (E := fun _ _ _ _ => False) (F ob hz.zc ⟨vs, hvs⟩) ⟨hr.dp, hr.un⟩ hot List.mem_cons_self hg hm hk hb (fun σ pins H s e s' I h => by
    obtain ⟨_, _, _, _, _, _, _, _, _, _, _, _, z⟩ := h
    exact z.elim) (pa_cons (pe_var (i := i) hi hv hd hd2) pa_nil rfl) hdb rfl rfl)) pss_never).run pins s _ H D I ?_
  exact ⟨.ref a, by rw [List.getElem?_set_self hin], rfl, rfl, fun p hp => q p hp⟩
theorem s_tryF {x f n : Str} {i : Nat} {np p1 p2 p3 p4 pp : Pos} {bd : List Stmt} {G : Cfg} {k : Nat} {C : Ct} {cb ck : CS} (xs : XS X ad N G k C) (h1 : gloB C x = true) (h2 : C.tcl.contains x = true) (h3 : gloB C f = true) (h4 : C.flg.contains f = true)
    (h5 : C.N[i]? = some n) (h6 : C.sc.names.lookup n = some .local) (h7 : (n == ("__debug__" : Str)) = false) (h8 : (n == ("__classdict__" : Str)) = false)
    (hb : ∀ (W : WX) (pn : List (Addr × Obj)) (xe : Value → Shared → Prop), L2N.Takes (X.tr pn xe) W → PassesOwn (model X.prog X.w) X.A X.env xe → PSs (X.tr pn xe) bd (tS (gd X ad) ⟨N.F0, N.H0, W⟩ (evB G cb))) (hk : PSs X rest (tS (gd X ad) N (evB G ck))) :
    PSs X (.Try bd [.ExceptHandler (some (.Name x np)) (some n) [.Return (some (.Call (.Name f p1) [.Name n p2] [] p3)) p4] pp] [] [] pos :: rest) (tS (gd X ad) N (evB G (.tryF x f i cb ck))) := by
  obtain ⟨c, hc, hsub⟩ := xs.sub x h2
  obtain ⟨fa, fd, y, m1, m2, m3, m4⟩ := xs.flg f h4
  obtain ⟨g1, g2, _⟩ := gl_of xs.toXF h1
  obtain ⟨g3, g4, _⟩ := gl_of xs.toXF h3
  have hi : X.N[i]? = some n := by rw [xs.eN]; exact h5
  have hln : X.env.kindOf n = some .local := by
    show X.env.scope.names.lookup n = _
    rw [xs.sc]
    exact h6
  have hk1 := xs.one
  · refine PSsw' (pss_cons (L2N.ps_try_as (tb := fun W => tS (gd X ad) ⟨N.F0, N.H0, W⟩ (evB G cb)) (ts := tFl X.prog X.w X.K X.mg X.base fa fd y i) xs.stk xs.frm xs.nd hi hln ⟨g1, g2, hc⟩ xs.tk2 hb (fun a ob cls d pn hz hf => suite_fl (xs.room.mono hk1) hi (.inl hln) h7 h8 g3 g4 m1 m2 m3 hz hf)) hk) fun D1 σ H ⟨env, F, dr, st, h⟩ => ?_
    refine ⟨env, F, dr, st, ?_⟩
    have h' : (match evB G cb env dr with
      | .bad => Res.bad
      | .exc e dr => match G.sub e.cls x with
        | some true => if e.at_.isNone then (ofO (G.flg f e.cls) dr).bind fun d dr => Res.ok (Fl.rt d) dr else Res.bad
        | some false => .exc e dr
        | none => .bad
      | .ok f dr => match f with
        | .nx env => evB G ck env dr
        | f => .ok f dr).post (FlP (gd X ad) N D1 F) (EXs (gd X ad) N) := h
    cases q : evB G cb env dr with
    | bad => rw [q] at h'; exact h'
    | ok fl dr1 =>
      rw [q] at h'
      cases fl with
      | nx env2 => exact fun σ' H' F' st2 s2 => ⟨env2, F', dr1, st2, post_up s2 h'⟩
      | rt d => exact h'
      | bk env2 => exact h'
      | ct env2 => exact h'
    | exc e dr1 =>
      rw [q] at h'
      dsimp only at h'
      show EXs (gd X ad) _ e dr1
      intro cls dd σ' H' F' po ex
      show wAs X.K c i (tFl X.prog X.w X.K X.mg X.base fa fd y i) N.W _ cls dd σ' H'
      cases q1 : G.sub e.cls x with
      | none => rw [q1] at h'; exact h'.elim
      | some b =>
        rw [q1] at h'
        refine ⟨b, hsub e.cls b cls q1 ex.1, fun hb1 a ha => ?_, fun hb1 => ?_⟩
        · subst hb1
          have h2 : (if e.at_.isNone = true then (ofO (G.flg f e.cls) dr1).bind fun d dr => Res.ok (Fl.rt d) dr else Res.bad).post (FlP (gd X ad) N D1 F) (EXs (gd X ad) N) := h'
          by_cases hn : e.at_.isNone = true
          · rw [if_pos hn] at h2
            obtain ⟨d, e1, k2⟩ := post_ofO (post_bind h2)
            obtain ⟨_, Da, bs, rfl, rfl, hl, hF⟩ := m4 e.cls d cls e1 ex.1
            have e3 : dd = none := by
              have := ex.2
              rw [Option.isNone_iff_eq_none.mp hn] at this
              exact this
            refine ⟨Da, bs, σ', rfl, e3, rfl, hF a, fun p hp => ?_⟩
            have k3 : ∀ v H' F', Post (gd X ad) N.F0 N.H0 F' H' dr1 → Rep (gd X ad) F' (.lst (bs.map .bl)) v → D1.rt v H' := k2
            refine k3 _ _ _ (po.alloc (o := .lst (bs.map .bl)) hp) ⟨by rw [List.length_map]; exact hl, p, bs.map .bl, rfl, upd_same, ?_⟩
            exact reps_bls bs
          · rw [if_neg hn] at h2
            exact h2.elim
        · subst hb1
          exact (show EXs (gd X ad) N e dr1 from h') cls dd σ' H' F' po ex
end
end Cr
namespace Cr
open PySem PySem.Spec PyProof.Rows L2 L2H

/-- an own object takes another content -/
theorem StR.mutO {g : Gd} {F0 H0 F H : Hp} {dr : List Int} {σ : L2.St} {env : Env} {i : Nat} {d d' : D} {p : Addr} {o : HO} (st : StR g F0 H0 σ env F H dr) (h : get env i = .own d) (hp : σ[i]? = some (some (.ref p))) (r : OwnR g F (upd H p o) p d') (hi : i < env.length) :
    StR g F0 H0 σ (env.set i (.own d')) F (upd H p o) dr := by
  have sl := st.slot i
  rw [h] at sl
  obtain ⟨p', e, f, h0, n, _⟩ := sl
  rw [hp] at e
  cases e
  refine ⟨st.po.mut h0 f n, by rw [List.length_set]; exact st.len, fun j => ?_, fun j l d1 e1 q h1 h2 h3 h4 => ?_⟩
  · rw [get_set]
    by_cases hj : i = j
    · subst hj
      rw [if_pos ⟨rfl, hi⟩]
      exact ⟨p, hp, f, h0, n, r⟩
    · rw [if_neg (fun z => hj z.1)]
      have s2 := st.slot j
      cases q : get env j with
      | no => trivial
      | val d2 => rw [q] at s2; exact s2
      | own d2 =>
        rw [q] at s2
        obtain ⟨p2, e2, f2, h2, n2, r2⟩ := s2
        have hne : p2 ≠ p := fun z => by
          subst z
          exact hj (st.apart i j d d2 p2 h q hp e2)
        exact ⟨p2, e2, f2, h2, n2, r2.mono (Same.refl _) fun o2 z => by rw [upd_ne hne]; exact z⟩
  · have own : ∀ {m : Nat} {d2 : D}, get (env.set i (.own d')) m = .own d2 → ∃ d3, get env m = .own d3 := fun {m d2} hm => by
      rw [get_set] at hm
      by_cases hj : i = m
      · subst hj
        exact ⟨d, h⟩
      · rw [if_neg (fun z => hj z.1)] at hm
        exact ⟨d2, hm⟩
    obtain ⟨d3, h5⟩ := own h1
    obtain ⟨d4, h6⟩ := own h2
    exact st.apart j l d3 d4 q h5 h6 h3 h4
theorem get_lt {env : Env} {i : Nat} {d : D} (h : get env i = .own d) : i < env.length := by
  by_cases hi : i < env.length
  · exact hi
  · unfold get at h
    rw [List.getD_eq_getElem?_getD, List.getElem?_eq_none (by omega)] at h
    cases h
theorem forL_cons {b : D → Env → List Int → Res Fl} {d : D} {ds : List D} {env : Env} {dr : List Int} : forL b (d :: ds) env dr = (b d env dr).bind fun f dr => match f with
    | .nx env => forL b ds env dr
    | .ct env => forL b ds env dr
    | .bk env => .ok (.nx env) dr
    | .rt d => .ok (.rt d) dr := rfl
section
variable {X : Cx} {ad : Option Addr} {N : En} {pk : Bool} {pos : Pos} {e l r : Expr} {rest : List Stmt} {σ : L2.St} {H F : Hp} {env : Env} {dr : List Int} {D0 : Ends}
theorem s_app {i : Nat} {x : Str} {p apos cpos : Pos} {ea : Env → List Int → Res D} {ek : Env → List Int → Res Fl} (hv : PE X (.Name x p) (tVar i)) (he : PE X e (tM (gd X ad) N false ea)) (hs : isStar e = false) (hline : (apos.endLine == cpos.line) = true) (hk : PSs X rest (tS (gd X ad) N ek)) :
    PSs X (.Expr (.Call (.Attribute (.Name x p) "append" apos) [e] [] cpos) pos :: rest) (tS (gd X ad) N (fun env dr => match get env i with
      | .own (.lst ds) => (ea env dr).bind fun d dr => (ofO (grd (decide (ds.length < sizeLine)) (env.set i (.own (.lst (ds ++ [d]))))) dr).bind fun env dr => ek env dr
      | _ => .bad)) :=
  PSsw' (pss_cons (ps_expr (pe_bm PySem.F.plainAttrs_list PySem.F.slot_list_append PySem.F.type_list_append mt_append hv (a_cons he a_nil (star_cons hs)) rfl (by rw [star_all (by rw [List.all_cons, hs]; rfl)]; rfl) hline (star_cons hs) rfl) rfl) hk) fun D1 σ H ⟨env, F, dr, st, h⟩ => by
    dsimp only at h
    split at h
    · rename_i ds q
      have sl := st.slot i
      rw [q] at sl
      obtain ⟨p, e1, f, h0, n, lo, vs, hp, rs⟩ := sl
      refine ⟨.ref p, e1, .inl ⟨rfl, vs, .of hp⟩, ?_⟩
      have e0 : ∀ {KK : D → List Int → Res Fl}, ((ea env dr).bind fun d dr => KK d dr) = ((ea env dr).bind fun d dr => (Res.ok [] dr).bind fun ds dr => Res.ok (d :: ds) dr).bind fun ds dr => match ds with
        | [d] => KK d dr
        | _ => .bad := by
        intro KK
        cases ea env dr <;> rfl
      rw [e0] at h
      refine sA (R := fun xs H2 => rAppend (.ref p) xs H2 fun _ H3 => tS (gd X ad) N ek D1 σ H3) st h fun dl dr1 vl H1 F1 st1 sb rl k => ?_
      match dl, k with
      | [], k => exact k.elim
      | _ :: _ :: _, k => exact k.elim
      | [d], k =>
        obtain ⟨v, t, rfl, r1, t1⟩ := rl
        cases (show t = [] from t1)
        obtain ⟨env', e3, k2⟩ := post_ofO (post_bind k)
        obtain ⟨hz, rfl⟩ := grd_some e3
        have sl1 := st1.slot i
        rw [q] at sl1
        obtain ⟨p1, e4, f1, h1, n1, lo1, vs1, hp1, rs1⟩ := sl1
        rw [e1] at e4
        cases e4
        have hz2 := of_decide_eq_true hz
        refine ⟨p, vs1, v, rfl, rfl, hp1, by rw [rs1.len]; exact hz2, _, F1, dr1, st1.mutO (d' := .lst (ds ++ [d])) q e1 ⟨by rw [List.length_append]; simp; omega, _, upd_same, rs1.snoc r1⟩ (get_lt q), k2⟩
    · exact h.elim
/-- a loop over the row of draws itself, which stays as it is -/
theorem s_forD {i : Nat} {x : Str} {xp : Pos} {tg : Expr} {body : List Stmt} {p : Pat} {eb ek : Env → List Int → Res Fl} (hp : PassesOwn (model X.prog X.w) X.A X.env X.xe) (hc : X.calm = true) (hv : PE X (.Name x xp) (tVar i)) (hg : PG X tg (gP (gd X ad) N p))
    (hb : PSs X body (tS (gd X ad) N eb)) (hk : PSs X rest (tS (gd X ad) N ek)) :
    PSs X (.For tg (.Name x xp) body [] pos :: rest) (tS (gd X ad) N (fun env dr => match get env i with
      | .val .drw => (forL (fun d env dr => ((ofO (asgP p d env) dr).bind fun env dr => eb env dr).bind fun f dr2 => if dr2 = dr then .ok f dr2 else .bad) (dr.reverse.map .int) env dr).bind fun f dr => match f with
        | .nx env => ek env dr
        | f => .ok f dr
      | _ => .bad)) :=
  PSsw' (pss_cons (ps_for hp hc (pi_list hv) hg hb (fun x => rfl)) hk) fun D1 σ H ⟨env, F, dr, st, h⟩ => by
    dsimp only at h
    split at h
    · rename_i q
      have sl := st.slot i
      rw [q] at sl
      obtain ⟨v, e1, rv⟩ := sl
      obtain ⟨A, ea, rfl⟩ := (show ∃ a, ad = some a ∧ v = .ref a from rv)
      refine ⟨.ref A, e1, A, rfl, ⟨_, .of (st.po.dr A ea)⟩, ?_⟩
      have hlen : (dr.reverse.map D.int).length = (dr.reverse.map V.int).length := by rw [List.length_map, List.length_map]
      generalize hB : (fun (d : D) (env : Env) (dr : List Int) => ((ofO (asgP p d env) dr).bind fun env dr => eb env dr).bind fun f dr2 => if dr2 = dr then Res.ok f dr2 else .bad) = B at h
      have inv : ∀ {σ' : L2.St} {H' : Hp} {i : Nat} {x : V} {env' : Env} {F' : Hp}, StR (gd X ad) N.F0 N.H0 σ' env' F' H' dr → (∀ ys, SqL X.K H' A ys → ys[i]? = some x) → ∃ z : Int, x = .int z ∧ (dr.reverse.map D.int)[i]? = some (.int z) := fun {σ' H' i x env' F'} st' y => by
        have := y _ (.of (st'.po.dr A ea))
        rw [List.getElem?_map] at this
        cases e : dr.reverse[i]? with
        | none => rw [e] at this; cases this
        | some z =>
          rw [e] at this
          exact ⟨z, (Option.some.inj this).symm, by rw [List.getElem?_map, e]; rfl⟩
      refine ⟨fun i m σ' H' => m = (dr.reverse.map D.int).length - i ∧ i ≤ (dr.reverse.map D.int).length ∧ ∃ env' F', StR (gd X ad) N.F0 N.H0 σ' env' F' H' dr ∧ Sub F F' ∧
        ((forL B ((dr.reverse.map D.int).drop i) env' dr).bind fun f dr => match f with
          | .nx env => ek env dr
          | f => .ok f dr).post (FlP (gd X ad) N D1 F') (EXs (gd X ad) N), ⟨_, rfl, Nat.zero_le _, env, F, st, Same.refl _, by rw [List.drop_zero]; exact h⟩, ?_⟩
      rintro i m σ' H' ⟨rfl, hi', env', F', st', s', h'⟩
      by_cases hlt : i < (dr.reverse.map D.int).length
      · right
        have hlt2 : i < (dr.reverse.map V.int).length := by rw [← hlen]; exact hlt
        refine ⟨⟨_, _, .of (st'.po.dr A ea), List.getElem?_eq_getElem hlt2⟩, fun σ2 H2 => ∃ env2 F2, StR (gd X ad) N.F0 N.H0 σ2 env2 F2 H2 dr ∧ Sub F F2 ∧
          ((forL B ((dr.reverse.map D.int).drop (i + 1)) env2 dr).bind fun f dr => match f with
            | .nx env => ek env dr
            | f => .ok f dr).post (FlP (gd X ad) N D1 F2) (EXs (gd X ad) N), fun σ2 H2 w => ⟨(dr.reverse.map D.int).length - (i + 1), by omega, rfl, hlt, w⟩, fun x H2 y => ?_⟩
        obtain ⟨rfl, y⟩ := y
        obtain ⟨z, rfl, ez⟩ := inv st' y
        rw [List.drop_eq_getElem_cons hlt] at h'
        have exd : (dr.reverse.map D.int)[i] = .int z := by
          rw [List.getElem?_eq_getElem hlt] at ez
          exact Option.some.inj ez
        rw [exd] at h'
        have h2 := post_bind h'
        rw [forL_cons] at h2
        have h3 := post_bind h2
        have e4 : B (.int z) env' dr = ((ofO (asgP p (.int z) env') dr).bind fun env dr => eb env dr).bind fun f dr2 => if dr2 = dr then Res.ok f dr2 else .bad := by rw [← hB]
        rw [e4] at h3
        have h4 := post_bind (post_bind h3)
        obtain ⟨env4, ea, h5⟩ := post_ofO h4
        refine ⟨env', F', dr, .int z, st', rfl, env4, ea, fun σ4 st4 _ _ => ⟨env4, F', dr, st4, h5.imp (fun f dr5 q5 => ?_) fun _ _ z => z⟩⟩
        by_cases hd : dr5 = dr
        · subst hd
          rw [if_pos rfl] at q5
          have mv : ∀ {env5 : Env} {F5 : Hp}, Sub F' F5 → ((forL B ((dr5.reverse.map D.int).drop (i + 1)) env5 dr5).post (fun f dr => Res.post (match f with
              | .nx env => ek env dr
              | f => .ok f dr) (FlP (gd X ad) N D1 F') (EXs (gd X ad) N)) (EXs (gd X ad) N)) → ((forL B ((dr5.reverse.map D.int).drop (i + 1)) env5 dr5).bind fun f dr => match f with
            | .nx env => ek env dr
            | f => .ok f dr).post (FlP (gd X ad) N D1 F5) (EXs (gd X ad) N) := fun {env5 F5} s5 q6 => by
            cases e9 : forL B ((dr5.reverse.map D.int).drop (i + 1)) env5 dr5 with
            | bad => rw [e9] at q6; exact q6.elim
            | exc e dd => rw [e9] at q6; exact q6
            | ok f dd =>
              rw [e9] at q6
              exact post_up s5 q6
          cases f with
          | nx env5 => exact fun σ5 H5 F5 st5 s5 => ⟨env5, F5, st5, s'.trans s5, mv s5 q5⟩
          | ct env5 => exact fun σ5 H5 F5 st5 s5 => ⟨env5, F5, st5, s'.trans s5, mv s5 q5⟩
          | bk env5 =>
            intro σ5 H5 F5 st5 s5
            exact ⟨env5, F5, dr5, st5, post_up s5 (show Res.post (ek env5 dr5) (FlP (gd X ad) N D1 F') (EXs (gd X ad) N) from q5)⟩
          | rt d5 => exact (show FlP (gd X ad) N D1 F' (.rt d5) dr5 from q5)
        · rw [if_neg hd] at q5
          exact q5.elim
      · have e : i = (dr.reverse.map D.int).length := by omega
        subst e
        rw [List.drop_length] at h'
        exact .inl ⟨⟨_, .of (st'.po.dr A ea), by rw [hlen]; exact Nat.le_refl _⟩, env', F', dr, st', h'⟩
    · exact h.elim
end
end Cr
/-! Own objects written into: x[i] = e, x.extend(e). -/
namespace Cr
open PySem PySem.Spec PyProof.Rows L2 L2H

section
variable {κ : Type} [DecidableEq κ]
theorem putK_ne {k' k : κ} {w v : V} {r : List (κ × V)} (h : ¬ k' = k) : putK ((k', w) :: r) k v = (k', w) :: putK r k v := by
  unfold putK
  rw [List.any_cons, decide_eq_false h, Bool.false_or]
  split
  · rw [List.map_cons, if_neg h]
  · rfl
theorem putK_eq {k : κ} {w v : V} {r : List (κ × V)} (h : ∀ p ∈ r, ¬ p.1 = k) : putK ((k, w) :: r) k v = (k, v) :: r := by
  unfold putK
  rw [List.any_cons, decide_eq_true rfl, Bool.true_or, if_pos rfl, List.map_cons, if_pos rfl]
  congr 1
  refine (List.map_congr_left fun p hp => ?_).trans (List.map_id _)
  rw [if_neg (h p hp)]
  rfl
theorem putK_nil {k : κ} {v : V} : putK ([] : List (κ × V)) k v = [(k, v)] := rfl
theorem putKs_ne {k' k : κ} {ks : List κ} {d' d : D} {ds : List D} (h : ¬ k' = k) : putKs (k' :: ks) (d' :: ds) k d = (k' :: (putKs ks ds k d).1, d' :: (putKs ks ds k d).2) := by
  show (if k' = k then (k' :: ks, d :: ds) else _) = _
  rw [if_neg h]
theorem putKs_eq {k : κ} {ks : List κ} {d' d : D} {ds : List D} : putKs (k :: ks) (d' :: ds) k d = (k :: ks, d :: ds) := by
  show (if k = k then (k :: ks, d :: ds) else _) = _
  rw [if_pos rfl]
/-- a dict written into stands for the tree written into -/
theorem put_zip {g : Gd} {F : Hp} (k : κ) {d : D} {v : V} (r : Rep g F d v) : ∀ {ks : List κ} {ds : List D} {vs : List V}, ks.Nodup → ks.length = ds.length → Reps g F ds vs →
    ∃ vs', putK (ks.zip vs) k v = (putKs ks ds k d).1.zip vs' ∧ Reps g F (putKs ks ds k d).2 vs' ∧ (putKs ks ds k d).1.Nodup ∧ (putKs ks ds k d).1.length = (putKs ks ds k d).2.length ∧ (putKs ks ds k d).1.length ≤ ks.length + 1 ∧ ∀ x ∈ (putKs ks ds k d).1, x ∈ ks ∨ x = k
  | [], [], vs, n, l, t => by
    cases (show vs = [] from t)
    exact ⟨[v], rfl, Reps.cons r Reps.nil, by show [k].Nodup; simp, rfl, Nat.le_refl _, fun x hx => .inr (List.mem_singleton.mp hx)⟩
  | [], _ :: _, _, _, l, _ => by simp at l
  | _ :: _, [], _, _, l, _ => by simp at l
  | k' :: ks, d' :: ds, vs, n, l, t => by
    obtain ⟨w, ws, rfl, r1, t1⟩ := t
    have n2 := List.nodup_cons.mp n
    by_cases e : k' = k
    · subst e
      rw [putKs_eq, List.zip_cons_cons]
      refine ⟨v :: ws, ?_, Reps.cons r t1, n, l, Nat.le_succ _, fun x hx => .inl hx⟩
      rw [List.zip_cons_cons]
      exact putK_eq fun p hp z => n2.1 (by
        have := (List.of_mem_zip hp).1
        rw [z] at this
        exact this)
    · obtain ⟨vs', h1, h2, h3, h4, h5, h6⟩ := put_zip k r n2.2 (by simpa using l) t1
      rw [putKs_ne e, List.zip_cons_cons, putK_ne e, h1]
      refine ⟨w :: vs', rfl, Reps.cons r1 h2, ?_, by simp [h4], by simp; omega, fun x hx => ?_⟩
      · refine List.nodup_cons.mpr ⟨fun z => ?_, h3⟩
        rcases h6 _ z with z | z
        · exact n2.1 z
        · exact e z
      · rcases List.mem_cons.mp hx with rfl | hx
        · exact .inl List.mem_cons_self
        · rcases h6 x hx with z | z
          · exact .inl (List.mem_cons_of_mem _ z)
          · exact .inr z
end
def rSetA : TSet := fun o i v H Q => rSetL o i v H Q ∨ rSetD o i v H Q
section
variable {X : Cx} {ad : Option Addr} {N : En} {pk : Bool} {pos : Pos} {e l r : Expr} {rest : List Stmt} {σ : L2.St} {H F : Hp} {env : Env} {dr : List Int} {D0 : Ends}
theorem set_any (hu : X.A.units + 1 < cLine) : PSet X rSetA := by
  intro pins s σ H o i v ov iv u Q I ro ri rv h
  rcases h with h | h
  · exact set_list pins s σ H o i v ov iv u Q I ro ri rv h
  · exact set_dict hu pins s σ H o i v ov iv u Q I ro ri rv h
/-- an own object at p is written into: what it is then -/
theorem set_own_ok {F H : Hp} {p : Addr} {o y d o' : D} {w u : V} (ro : OwnR (gd X ad) F H p o) (ry : RepQ (gd X ad) true F H y w) (rd : Rep (gd X ad) F d u) (sb : Sub F H) (e : setS (.own o) y d = some (.own o')) {Q : Hp → Prop} (k : ∀ u', OwnR (gd X ad) F (upd H p u') p o' → Q (upd H p u')) : rSetA (.ref p) w u H Q := by
  cases o with
  | lst ds =>
    cases y <;> try (cases e; done)
    rename_i i
    cases rq_int ry
    obtain ⟨lo, vs, hp, rs⟩ := ro
    have e' : (L2.ixN ds.length i).map (fun j => Sl.own (.lst (ds.set j d))) = some (.own o') := e
    cases q : L2.ixN ds.length i with
    | none => rw [q] at e'; cases e'
    | some j =>
      rw [q] at e'
      cases e'
      exact .inl ⟨p, vs, i, j, rfl, rfl, hp, by rw [rs.len]; exact q, k _ ⟨by rw [List.length_set]; exact lo, _, upd_same, rs.set j rd⟩⟩
  | dicK ks ds =>
    obtain ⟨nd, lo, l2, vs, hp, rs⟩ := ro
    have e' : (match y.key with
      | some k => grd (decide (ks.length < sizeLine)) (Sl.own (.dicK (putKs ks ds k d).1 (putKs ks ds k d).2))
      | none => none) = some (.own o') := e
    cases q : y.key with
    | none => rw [q] at e'; cases e'
    | some kk =>
      rw [q] at e'
      obtain ⟨h1, h2⟩ := grd_some e'
      cases h2
      have h1 := of_decide_eq_true h1
      obtain ⟨vs', z1, z2, z3, z4, z5, _⟩ := put_zip kk rd nd l2 rs
      refine .inr ⟨p, _, rfl, .inl ⟨ks.zip vs, kk, hp, key_V ry q, ?_, rfl⟩, k _ ⟨z3, by omega, z4, vs', by rw [upd_same, z1], z2⟩⟩
      rw [List.length_zip, rs.len]
      omega
  | dicT ks ds =>
    obtain ⟨nd, lo, l2, vs, hp, rs⟩ := ro
    cases y <;> try (cases e; done)
    rename_i es
    have e' : (match keysOf es with
      | some k => grd (decide (ks.length < sizeLine)) (Sl.own (.dicT (putKs ks ds k d).1 (putKs ks ds k d).2))
      | none => none) = some (.own o') := e
    cases q : keysOf es with
    | none => rw [q] at e'; cases e'
    | some kk =>
      rw [q] at e'
      obtain ⟨h1, h2⟩ := grd_some e'
      cases h2
      have h1 := of_decide_eq_true h1
      obtain ⟨b, ws, rfl, hb, tw, _⟩ := rq_tup ry sb
      cases keysOf_V tw q
      obtain ⟨vs', z1, z2, z3, z4, z5, _⟩ := put_zip kk rd nd l2 rs
      refine .inr ⟨p, _, rfl, .inr ⟨ks.zip vs, kk, b, hp, rfl, hb, ?_, rfl⟩, k _ ⟨z3, by omega, z4, vs', by rw [upd_same, z1], z2⟩⟩
      rw [List.length_zip, rs.len]
      omega
  | _ => cases y <;> cases e
theorem slD_own {s : Sl} {o : D} (h : slD? s = some o) : s = .own o := by
  cases s <;> first | (cases h; rfl) | cases h
theorem setS_own {o y d : D} {s : Sl} (h : setS (.own o) y d = some s) : ∃ o', s = .own o' := by
  rw [show setS (.own o) y d = _ from rfl] at h
  cases s with
  | own o' => exact ⟨o', rfl⟩
  | _ =>
    exfalso
    cases o with
    | lst ds =>
      cases y <;> try (cases h; done)
      rename_i i
      have h : (L2.ixN ds.length i).map (fun j => Sl.own (.lst (ds.set j d))) = _ := h
      cases q : L2.ixN ds.length i <;> rw [q] at h <;> cases h
    | dicK ks ds =>
      have h : (match y.key with
        | some k => grd (decide (ks.length < sizeLine)) (Sl.own (.dicK (putKs ks ds k d).1 (putKs ks ds k d).2))
        | none => none) = _ := h
      cases q : y.key with
      | none => rw [q] at h; cases h
      | some kk =>
        rw [q] at h
        obtain ⟨_, h2⟩ := grd_some h
        cases h2
    | dicT ks ds =>
      cases y <;> try (cases h; done)
      rename_i es
      have h : (match keysOf es with
        | some k => grd (decide (ks.length < sizeLine)) (Sl.own (.dicT (putKs ks ds k d).1 (putKs ks ds k d).2))
        | none => none) = _ := h
      cases q : keysOf es with
      | none => rw [q] at h; cases h
      | some kk =>
        rw [q] at h
        obtain ⟨_, h2⟩ := grd_some h
        cases h2
    | _ => cases y <;> cases h
theorem s_setI {i : Nat} {x : Str} {p sp : Pos} {ix : Expr} {ea ex : Env → List Int → Res D} {ek : Env → List Int → Res Fl} (hu : X.A.units + 1 < cLine) (hv : PE X (.Name x p) (tVar i)) (he : PE X e (tM (gd X ad) N false ea)) (hx : PE X ix (tM (gd X ad) N true ex)) (hpl : isSlice ix = false) (hs : swapsWithSole [.Subscript (.Name x p) ix sp] e pos.line X.env = pure false)
    (hw : swappedStores [.Subscript (.Name x p) ix sp] e X.env = pure none) (hk : PSs X rest (tS (gd X ad) N ek)) :
    PSs X (.Assign [.Subscript (.Name x p) ix sp] e pos :: rest) (tS (gd X ad) N (fun env dr => (ea env dr).bind fun d dr => (ofO (slD? (get env i)) dr).bind fun _ dr => (ex env dr).bind fun y dr => (ofO ((setS (get env i) y d).bind (setSl env i)) dr).bind fun env dr => ek env dr)) :=
  PSsw' (pss_cons (ps_asg he (pg_sub hv hx (set_any hu) (fun v => by cases ix <;> first | rfl | cases hpl)) hs hw) hk) fun D1 σ H ⟨env, F, dr, st, h⟩ => by
    refine sE (R := fun v H1 => gSub (tVar i) (tM (gd X ad) N true ex) rSetA v σ H1 (fun σ' H' => tS (gd X ad) N ek D1 σ' H')) st h fun d dr1 v H1 F1 st1 sb r1 k => ?_
    obtain ⟨o, e1, k2⟩ := post_ofO (post_bind k)
    have eo := slD_own e1
    have sl := st1.slot i
    rw [eo] at sl
    obtain ⟨p, e2, f, h0, n, ro⟩ := sl
    refine ⟨.ref p, e2, ?_⟩
    refine sE (R := fun w H2 => rSetA (.ref p) w v H2 fun H3 => tS (gd X ad) N ek D1 σ H3) st1 k2 fun y dr2 w H2 F2 st2 sb2 r2 k3 => ?_
    obtain ⟨env', e3, k4⟩ := post_ofO (post_bind k3)
    rw [eo] at e3
    cases q : setS (.own o) y d with
    | none => rw [q] at e3; cases e3
    | some s' =>
      rw [q] at e3
      obtain ⟨o', rfl⟩ := setS_own q
      have sl2 := st2.slot i
      rw [eo] at sl2
      obtain ⟨p2, e4, f2, h2, n2, ro2⟩ := sl2
      rw [e2] at e4
      cases e4
      have e5 : (if i < env.length then some (env.set i (.own o')) else none) = some env' := e3
      rw [if_pos (get_lt eo)] at e5
      cases e5
      exact set_own_ok ro2 r2 (Rep.mono sb2 _ _ r1.rep) st2.po.s q fun u' r3 => ⟨_, F2, dr2, st2.mutO eo e2 r3 (get_lt eo), k4⟩
theorem s_ext {i : Nat} {x : Str} {p apos cpos : Pos} {ea : Env → List Int → Res D} {ek : Env → List Int → Res Fl} (hv : PE X (.Name x p) (tVar i)) (he : PE X e (tM (gd X ad) N false ea)) (hs : isStar e = false) (hline : (apos.endLine == cpos.line) = true) (hk : PSs X rest (tS (gd X ad) N ek)) :
    PSs X (.Expr (.Call (.Attribute (.Name x p) "extend" apos) [e] [] cpos) pos :: rest) (tS (gd X ad) N (fun env dr => (ofO (slD? (get env i)) dr).bind fun o dr => (ofO (lstD o) dr).bind fun _ dr => (ea env dr).bind fun d dr => (ofO ((extS (get env i) d).bind (setSl env i)) dr).bind fun env dr => ek env dr)) :=
  PSsw' (pss_cons (ps_expr (pe_bm PySem.F.plainAttrs_list PySem.F.slot_list_extend PySem.F.type_list_extend mt_extend hv (a_cons he a_nil (star_cons hs)) rfl (by rw [star_all (by rw [List.all_cons, hs]; rfl)]; rfl) hline (star_cons hs) rfl) rfl) hk) fun D1 σ H ⟨env, F, dr, st, h⟩ => by
    obtain ⟨o, e1, k1⟩ := post_ofO (post_bind h)
    obtain ⟨l0, e9, k2⟩ := post_ofO (post_bind k1)
    have eo := slD_own e1
    have sl := st.slot i
    rw [eo] at sl
    obtain ⟨p, e2, f, h0, n, ro⟩ := sl
    cases o with
    | lst ds =>
      obtain ⟨lo, vs, hp, rs⟩ := ro
      refine ⟨.ref p, e2, .inl ⟨rfl, vs, .of hp⟩, ?_⟩
      have e0 : ∀ {KK : D → List Int → Res Fl}, ((ea env dr).bind fun d dr => KK d dr) = ((ea env dr).bind fun d dr => (Res.ok [] dr).bind fun ds dr => Res.ok (d :: ds) dr).bind fun ds dr => match ds with
        | [d] => KK d dr
        | _ => .bad := by
        intro KK
        cases ea env dr <;> rfl
      rw [e0] at k2
      refine sA (R := fun xs H2 => rExtend (.ref p) xs H2 fun _ H3 => tS (gd X ad) N ek D1 σ H3) st k2 fun dl dr1 vl H1 F1 st1 sb rl k => ?_
      match dl, k with
      | [], k => exact k.elim
      | _ :: _ :: _, k => exact k.elim
      | [d], k =>
        obtain ⟨v, t, rfl, r1, t1⟩ := rl
        cases (show t = [] from t1)
        obtain ⟨env', e3, k4⟩ := post_ofO (post_bind k)
        rw [eo] at e3
        cases d <;> try (cases e3; done)
        rename_i es
        have e4 : (grd (szOk (ds.length + es.length)) (Sl.own (.lst (ds ++ es)))).bind (setSl env i) = some env' := e3
        cases q : szOk (ds.length + es.length) with
        | false => rw [q] at e4; cases e4
        | true =>
          rw [q] at e4
          have e5 : (if i < env.length then some (env.set i (.own (.lst (ds ++ es)))) else none) = some env' := e4
          rw [if_pos (get_lt eo)] at e5
          cases e5
          have hz := szOk_le q
          have sl1 := st1.slot i
          rw [eo] at sl1
          obtain ⟨p1, e6, f1, h1, n1, lo1, vs1, hp1, rs1⟩ := sl1
          rw [e2] at e6
          cases e6
          obtain ⟨b, zs, rfl, hb, tz, _⟩ := rq_lst (pk := false) (.inl r1) st1.po.s
          have a1 := rs1.len
          have a2 := tz.len
          exact ⟨p, b, vs1, zs, rfl, rfl, hp1, hb, by omega, _, F1, dr1, st1.mutO (d' := .lst (ds ++ es)) eo e2 ⟨by rw [List.length_append]; exact hz, _, upd_same, rs1.app tz⟩ (get_lt eo), k4⟩
    | _ => cases e9
end
end Cr
/-! Names that take values side by side, some of them new objects. -/
namespace Cr
open PySem PySem.Spec PyProof.Rows L2 L2H

/-- the new objects among the values -/
def owns : List Bool → List V → List V
  | true :: os, v :: vs => v :: owns os vs
  | false :: os, _ :: vs => owns os vs
  | _, _ => []
/-- values, some of them objects that nothing else knows: Hs the heap ahead -/
def RepsO (g : Gd) (Hs F H : Hp) : List Bool → List D → List V → Prop
  | [], ds, vs => ds = [] ∧ vs = []
  | o :: os, ds, vs => ∃ d ds' w ws, ds = d :: ds' ∧ vs = w :: ws ∧ RepsO g Hs F H os ds' ws ∧ match o with
    | false => Rep g F d w
    | true => ∃ p, w = .ref p ∧ Hs p = none ∧ F p = none ∧ some p ≠ g.ad ∧ OwnR g F H p d ∧ V.ref p ∉ owns os ws
theorem RepsO.mono {g : Gd} {Hs F H F' H' : Hp} (s : Sub F F') (hF : ∀ p, F p = none → (∃ o, H p = some o) → F' p = none) (k : ∀ p o, H p = some o → some p ≠ g.ad → H' p = some o) : ∀ {os : List Bool} {ds : List D} {vs : List V}, RepsO g Hs F H os ds vs → RepsO g Hs F' H' os ds vs
  | [], _, _, h => h
  | o :: os, _, _, ⟨d, ds', w, ws, e1, e2, h, c⟩ => by
    refine ⟨d, ds', w, ws, e1, e2, RepsO.mono s hF k h, ?_⟩
    cases o with
    | false => exact Rep.mono s _ _ c
    | true =>
      obtain ⟨p, e, h1, h2, h3, h4, h5⟩ := c
      exact ⟨p, e, h1, hF p h2 h4.there, h3, h4.mono s fun o e => k p o e h3, h5⟩
theorem RepsO.len {g : Gd} {Hs F H : Hp} : ∀ {os : List Bool} {ds : List D} {vs : List V}, RepsO g Hs F H os ds vs → ds.length = os.length ∧ vs.length = os.length
  | [], _, _, ⟨h1, h2⟩ => by subst h1 h2; exact ⟨rfl, rfl⟩
  | o :: os, _, _, ⟨d, ds', w, ws, e1, e2, h, _⟩ => by
    subst e1 e2
    have := h.len
    simp [this.1, this.2]
theorem RepsO.before {g : Gd} {Hs H0 F H : Hp} (k : ∀ p, H0 p = none → Hs p = none) : ∀ {os : List Bool} {ds : List D} {vs : List V}, RepsO g H0 F H os ds vs → RepsO g Hs F H os ds vs
  | [], _, _, h => h
  | o :: os, _, _, ⟨d, ds', w, ws, e1, e2, h, c⟩ => by
    refine ⟨d, ds', w, ws, e1, e2, RepsO.before k h, ?_⟩
    cases o with
    | false => exact c
    | true =>
      obtain ⟨p, e, h1, h2⟩ := c
      exact ⟨p, e, k p h1, h2⟩
/-- a new object of a later time is not one of ahead -/
theorem RepsO.apart {g : Gd} {H0 F H : Hp} {p : Addr} (hp : H0 p ≠ none) : ∀ {os : List Bool} {ds : List D} {vs : List V}, RepsO g H0 F H os ds vs → V.ref p ∉ owns os vs
  | [], _, _, h => by
    obtain ⟨_, rfl⟩ := h
    exact fun z => nomatch z
  | o :: os, _, _, ⟨d, ds', w, ws, e1, e2, h, c⟩ => by
    subst e2
    cases o with
    | false => exact h.apart hp
    | true =>
      obtain ⟨q, e, h1, h2⟩ := c
      subst e
      intro z
      rcases List.mem_cons.mp z with z | z
      · cases z
        exact hp h1
      · exact h.apart hp z
def tAo (g : Gd) (N : En) (os : List Bool) (ev : Env → List Int → Res (List D)) : TA := fun σ H Q => ∃ env F dr, StR g N.F0 N.H0 σ env F H dr ∧
  (ev env dr).post (fun ds dr' => ∀ vs H' F', Post g F H F' H' dr' → RepsO g H F' H' os ds vs → Q vs H') (EX g N.W F H σ)
def setsσ (σ : L2.St) : List Nat → List V → L2.St
  | i :: is, v :: vs => setsσ (σ.set i (some v)) is vs
  | _, _ => σ
section
variable {X : Cx} {ad : Option Addr} {N : En} {pk : Bool} {pos : Pos} {e l r : Expr} {rest : List Stmt} {σ : L2.St} {H F : Hp} {env : Env} {dr : List Int} {D0 : Ends}
theorem ao_nil : PA X [] (tAo (gd X ad) N [] (fun _ dr => .ok [] dr)) := PAw' pa_nil fun σ H Q ⟨env, F, dr, st, k⟩ => k [] H F st.po.self ⟨rfl, rfl⟩
theorem new_none {g : Gd} {F H F1 H1 : Hp} {dr1 : List Int} (a : Post g F H F1 H1 dr1) {p : Addr} (h : H1 p = none) : H p = none := free_before a h
theorem ao_val {es : List Expr} {os : List Bool} {ea : Env → List Int → Res D} {el : Env → List Int → Res (List D)} (ha : PE X l (tM (gd X ad) N false ea)) (hl : PA X es (tAo (gd X ad) N os el)) (hs : starEach (l :: es) X.env = (false, eval l X.env) :: starEach es X.env) :
    PA X (l :: es) (tAo (gd X ad) N (false :: os) (fun env dr => (ea env dr).bind fun d dr => (ofO (some d) dr).bind fun d dr => (el env dr).bind fun ds dr => .ok (d :: ds) dr)) := PAw' (pa_cons ha hl hs) fun σ H Q ⟨env, F, dr, st, k⟩ => by
  refine ⟨env, F, dr, st, (post_bind k).imp (fun d dr1 h1 v H1 F1 a r1 => ?_) fun _ _ z => z⟩
  have h1 : ((el env dr1).bind fun ds dr => Res.ok (d :: ds) dr).post _ _ := h1
  refine ⟨env, F1, dr1, st.step a, (post_bind h1).imp (fun ds dr2 h2 vs H2 F2 b r2 => ?_) fun e dr' z => EX.step a e dr' z⟩
  exact h2 _ H2 F2 (a.trans b) ⟨d, ds, v, vs, rfl, rfl, r2.before fun p hp => new_none a hp, Rep.mono b.f _ _ r1.rep⟩
theorem ao_own {es : List Expr} {os : List Bool} {ea : Env → List Int → Res D} {el : Env → List Int → Res (List D)} (ha : PE X l (tMF (gd X ad) N (fun env dr => (ea env dr).bind fun d dr => ofO (freshD d) dr))) (hl : PA X es (tAo (gd X ad) N os el)) (hs : starEach (l :: es) X.env = (false, eval l X.env) :: starEach es X.env) :
    PA X (l :: es) (tAo (gd X ad) N (true :: os) (fun env dr => (ea env dr).bind fun d dr => (ofO (freshD d) dr).bind fun d dr => (el env dr).bind fun ds dr => .ok (d :: ds) dr)) := PAw' (pa_cons ha hl hs) fun σ H Q ⟨env, F, dr, st, k⟩ => by
  have k : (((ea env dr).bind fun d dr => ofO (freshD d) dr).bind fun d dr => (el env dr).bind fun ds dr => .ok (d :: ds) dr).post (fun ds dr' => ∀ vs H' F', Post (gd X ad) F H F' H' dr' → RepsO (gd X ad) H F' H' (true :: os) ds vs → Q vs H') (EX (gd X ad) N.W F H σ) := by
    rw [Res.bind_assoc]
    exact k
  refine ⟨env, F, dr, st, (post_bind k).imp (fun d dr1 h1 p H1 F1 a hp hf r1 => ?_) fun _ _ z => z⟩
  have h1 : ((el env dr1).bind fun ds dr => Res.ok (d :: ds) dr).post _ _ := h1
  refine ⟨env, F1, dr1, st.step a, (post_bind h1).imp (fun ds dr2 h2 vs H2 F2 b r2 => ?_) fun e dr' z => EX.step a e dr' z⟩
  obtain ⟨o, ho⟩ := r1.there
  have hne : some p ≠ (gd X ad).ad := st.po.pne hp
  refine h2 _ H2 F2 (a.trans b) ⟨d, ds, .ref p, vs, rfl, rfl, r2.before fun p hp => new_none a hp, p, rfl, hp, ?_, hne, r1.mono b.f fun o e => b.old p o e hne, r2.apart (by rw [ho]; simp)⟩
  cases q : F2 p with
  | none => rfl
  | some u =>
    rcases b.new p (by rw [q]; simp) with z | z
    · exact absurd hf z
    · rw [ho] at z; cases z
/-- the slots take them one by one -/
theorem sets_ok {g : Gd} {F0 H0 Hs : Hp} {F H : Hp} {dr : List Int} (hb : ∀ p, Hs p = none → H0 p = none) : ∀ {is : List (Nat × Bool)} {ds : List D} {vs : List V} {env env' : Env} {σ : L2.St}, StR g F0 H0 σ env F H dr → RepsO g Hs F H (is.map (·.2)) ds vs → (∀ j d p, get env j = .own d → σ[j]? = some (some (.ref p)) → V.ref p ∉ owns (is.map (·.2)) vs) → setAll env is ds = some env' → StR g F0 H0 (setsσ σ (is.map (·.1)) vs) env' F H dr
  | [], ds, vs, env, env', σ, st, r, ap, e => by
    obtain ⟨rfl, rfl⟩ := r
    cases (show some env = some env' from e)
    exact st
  | (i, o) :: is, ds, vs, env, env', σ, st, r, ap, e => by
    obtain ⟨d, ds', w, ws, rfl, rfl, h, c⟩ := r
    have e : ((setSl env i (if o then .own d else .val d)).bind fun env => setAll env is ds') = some env' := e
    cases q : setSl env i (if o then .own d else .val d) with
    | none => rw [q] at e; cases e
    | some env1 =>
      rw [q] at e
      have q' : (if i < env.length then some (env.set i (if o then .own d else .val d)) else none) = some env1 := q
      split at q'
      · rename_i hi
        cases q'
        cases o with
        | false =>
          show StR g F0 H0 (setsσ (σ.set i (some w)) (is.map (·.1)) ws) env' F H dr
          refine sets_ok hb (st.setV hi c) h (fun j d' p h1 h2 => ?_) e
          rw [get_set] at h1
          by_cases hj : i = j
          · rw [if_pos ⟨hj, hi⟩] at h1
            cases h1
          · rw [if_neg (fun z => hj z.1)] at h1
            rw [List.getElem?_set_ne hj] at h2
            exact ap j d' p h1 h2
        | true =>
          obtain ⟨p, rfl, h1, h2, h3, h4, h5⟩ := c
          show StR g F0 H0 (setsσ (σ.set i (some (.ref p))) (is.map (·.1)) ws) env' F H dr
          refine sets_ok hb (st.setO hi h2 (hb p h1) h3 h4 fun j d' g1 g2 => absurd List.mem_cons_self (ap j d' p g1 g2)) h (fun j d' p2 g1 g2 => ?_) e
          rw [get_set] at g1
          by_cases hj : i = j
          · subst hj
            rw [List.getElem?_set_self (by rw [st.len]; exact hi)] at g2
            cases g2
            exact h5
          · rw [if_neg (fun z => hj z.1)] at g1
            rw [List.getElem?_set_ne hj] at g2
            exact fun z => ap j d' p2 g1 g2 (List.mem_cons_of_mem _ z)
      · cases q'
theorem sets_run {ev : Env → List Int → Res (List D)} {is : List (Nat × Bool)} {ek : Env → List Int → Res Fl} {D1 : Ends} (st : StR (gd X ad) N.F0 N.H0 σ env F H dr) (h : ((ev env dr).bind fun ds dr => (ofO (setAll env is ds) dr).bind fun env dr => ek env dr).post (FlP (gd X ad) N D1 F) (EXs (gd X ad) N)) {R : List V → Hp → Prop}
    (k : ∀ vs H1 F1 dr1 env', vs.length = is.length → StR (gd X ad) N.F0 N.H0 (setsσ σ (is.map (·.1)) vs) env' F1 H1 dr1 → (ek env' dr1).post (FlP (gd X ad) N D1 F1) (EXs (gd X ad) N) → R vs H1) : tAo (gd X ad) N (is.map (·.2)) ev σ H R := by
  refine ⟨env, F, dr, st, (post_bind h).imp (fun ds dr1 h1 vs H1 F1 a r1 => ?_) fun e dr' z => EXs.ex st e dr' z⟩
  obtain ⟨env', e1, k2⟩ := post_ofO (post_bind h1)
  have st1 := st.step a
  refine k vs H1 F1 dr1 env' (by have := r1.len.2; simpa using this) (sets_ok (fun p hp => ?_) st1 r1 (fun j d p g1 g2 => ?_) e1) (k2.imp (fun f dr z => z.up a.f f dr) fun _ _ z => z)
  · cases q : N.H0 p with
    | none => rfl
    | some o => rw [st.po.old p o q (st.po.pne hp)] at hp; cases hp
  · have sl := st.slot j
    rw [g1] at sl
    obtain ⟨p', e2, f, h0, n, ro⟩ := sl
    rw [e2] at g2
    cases g2
    obtain ⟨o, ho⟩ := ro.there
    exact r1.apart (by rw [ho]; simp)
theorem len2 {α : Type} {vs : List α} (h : vs.length = 2) : ∃ a b, vs = [a, b] := by
  match vs, h with
  | [a, b], _ => exact ⟨a, b, rfl⟩
theorem len3 {α : Type} {vs : List α} (h : vs.length = 3) : ∃ a b c, vs = [a, b, c] := by
  match vs, h with
  | [a, b, c], _ => exact ⟨a, b, c, rfl⟩
theorem s_par2 {i j : Nat} {oi oj : Bool} {x y : Str} {a b : Expr} {px py pt pt2 : Pos} {kt k2 : Nat} {ev : Env → List Int → Res (List D)} {ek : Env → List Int → Res Fl} (hc : X.calm = true) (hN : X.N.Nodup) (hi : X.N[i]? = some x) (hj : X.N[j]? = some y) (hij : i ≠ j)
    (hx : X.env.scope.names.lookup x = some .local) (hy : X.env.scope.names.lookup y = some .local) (ha : PA X [a, b] (tAo (gd X ad) N [oi, oj] ev))
    (hw : swappedStores [.Tuple [.Name x px, .Name y py] kt pt] (.Tuple [a, b] k2 pt2) X.env = pure (some [x, y])) (hk : PSs X rest (tS (gd X ad) N ek)) :
    PSs X (.Assign [.Tuple [.Name x px, .Name y py] kt pt] (.Tuple [a, b] k2 pt2) pos :: rest) (tS (gd X ad) N (fun env dr => (ev env dr).bind fun ds dr => (ofO (setAll env [(i, oi), (j, oj)] ds) dr).bind fun env dr => ek env dr)) :=
  PSsw' (pss_cons (ps_par hc hN hi hj hij hx hy ha hw) hk) fun D1 σ H ⟨env, F, dr, st, h⟩ =>
    sets_run (is := [(i, oi), (j, oj)]) st h fun vs H1 F1 dr1 env' hl st1 k => by
      obtain ⟨a, b, rfl⟩ := len2 hl
      exact ⟨a, b, rfl, env', F1, dr1, st1, k⟩
theorem s_par3 {i j m : Nat} {oi oj om : Bool} {x y z : Str} {a b c : Expr} {px py pz pt pt2 : Pos} {kt k2 : Nat} {ev : Env → List Int → Res (List D)} {ek : Env → List Int → Res Fl} (hc : X.calm = true) (hN : X.N.Nodup) (hi : X.N[i]? = some x) (hj : X.N[j]? = some y) (hm : X.N[m]? = some z) (hij : i ≠ j) (him : i ≠ m) (hjm : j ≠ m)
    (hx : X.env.scope.names.lookup x = some .local) (hy : X.env.scope.names.lookup y = some .local) (hz : X.env.scope.names.lookup z = some .local) (ha : PA X [a, b, c] (tAo (gd X ad) N [oi, oj, om] ev))
    (hw : swappedStores [.Tuple [.Name x px, .Name y py, .Name z pz] kt pt] (.Tuple [a, b, c] k2 pt2) X.env = pure (some [x, y, z])) (hk : PSs X rest (tS (gd X ad) N ek)) :
    PSs X (.Assign [.Tuple [.Name x px, .Name y py, .Name z pz] kt pt] (.Tuple [a, b, c] k2 pt2) pos :: rest) (tS (gd X ad) N (fun env dr => (ev env dr).bind fun ds dr => (ofO (setAll env [(i, oi), (j, oj), (m, om)] ds) dr).bind fun env dr => ek env dr)) :=
  PSsw' (pss_cons (ps_par3 hc hN hi hj hm hij him hjm hx hy hz ha hw) hk) fun D1 σ H ⟨env, F, dr, st, h⟩ =>
    sets_run (is := [(i, oi), (j, oj), (m, om)]) st h fun vs H1 F1 dr1 env' hl st1 k => by
      obtain ⟨a, b, c, rfl⟩ := len3 hl
      exact ⟨a, b, c, rfl, env', F1, dr1, st1, k⟩
end
end Cr
namespace Cr
open PySem PySem.Spec PyProof.Rows L2 L2H

section
variable {X : Cx} {ad : Option Addr} {N : En} {G : Cfg} {k : Nat} {C : Ct} {env : PySem.Env}
theorem blockKind_fn (h : env.scope.kind = .function) : env.blockKind = .function := by
  unfold Env.blockKind
  rw [h]
  rfl
theorem swaps_yes {t : Str} {py lp : Pos} {elt : Expr} {gens : List Comprehension} {s : Scope} {l : Nat} (h0 : env.scope.kind = .function) (h1 : env.scope.names.lookup t = some .local) (h2 : (py.line == lp.line) = true)
    (h3 : (s.names.any fun (n, k) => n == t && (k == .local || k == .cell)) = false) : swapsWith (.ListComp elt gens s lp) (some (.Name t py)) l env = pure true := by
  unfold swapsWith
  dsimp only
  have e1 : env.kindOf t = some .local := h1
  rw [blockKind_fn h0, e1, show ((Expr.ListComp elt gens s lp).pos.line) = lp.line from rfl, h2, h3]
  rfl
theorem stores_two {x y : Str} {px py pt pt2 : Pos} {kt k2 : Nat} {a b : Expr} (h0 : env.scope.kind = .function) (hx : env.scope.names.lookup x = some .local) (hy : env.scope.names.lookup y = some .local) (hl0 : (px.line == px.line) = true) (hl : (py.line == px.line) = true) (hxy : (x == y) = false) (hyx : (y == x) = false)
    (ha : isStar a = false) (hb : isStar b = false) (h1 : [a, b].all (foldedForSure 8) = false) (h2 : [a, b].all (constantsAlone 8) = false) :
    swappedStores [.Tuple [.Name x px, .Name y py] kt pt] (.Tuple [a, b] k2 pt2) env = pure (some [x, y]) := by
  unfold swappedStores
  dsimp only
  have e1 : env.kindOf x = some .local := hx
  have e2 : env.kindOf y = some .local := hy
  have nb := blockKind_fn h0
  refine (if_neg ?_).trans ((if_neg ?_).trans ((if_neg ?_).trans ((if_neg ?_).trans ((if_neg ?_).trans ?_))))
  · rw [nb]
    exact Bool.false_ne_true
  · intro hh
    obtain ⟨z, hz, hq⟩ := List.any_eq_true.mp hh
    rcases List.mem_cons.mp hz with rfl | hz
    · cases z <;> first | (cases ha; done) | (cases hq; done)
    · cases List.mem_singleton.mp hz
      cases b <;> first | (cases hb; done) | (cases hq; done)
  · simp only [List.filterMap_cons, List.filterMap_nil, e1, e2, List.head?_cons, Option.map_some, Option.getD_some, show (Expr.Name x px).pos.line = px.line from rfl, hl0, hl, beq_self_eq_true, Bool.and_self, if_pos]
    have : ¬ y = x := by simpa using hyx
    simp [List.eraseDups_cons, this]
  · rw [h1]
    decide
  · rw [h2]
    decide
  · simp only [List.filterMap_cons, List.filterMap_nil, e1, e2, List.head?_cons, Option.map_some, Option.getD_some, show (Expr.Name x px).pos.line = px.line from rfl, hl0, hl, beq_self_eq_true, Bool.and_self, if_pos]
theorem stores_three {x y z : Str} {px py pz pt pt2 : Pos} {kt k2 : Nat} {a b c : Expr} (h0 : env.scope.kind = .function) (hx : env.scope.names.lookup x = some .local) (hy : env.scope.names.lookup y = some .local) (hz : env.scope.names.lookup z = some .local) (hl0 : (px.line == px.line) = true) (hl : (py.line == px.line) = true) (hl2 : (pz.line == px.line) = true) (hxy : (x == y) = false) (hxz : (x == z) = false) (hyz : (y == z) = false)
    (ha : isStar a = false) (hb : isStar b = false) (hc : isStar c = false) (h1 : [a, b, c].all (foldedForSure 8) = false) (h2 : [a, b, c].all (constantsAlone 8) = false) :
    swappedStores [.Tuple [.Name x px, .Name y py, .Name z pz] kt pt] (.Tuple [a, b, c] k2 pt2) env = pure (some [x, y, z]) := by
  unfold swappedStores
  dsimp only
  have e1 : env.kindOf x = some .local := hx
  have e2 : env.kindOf y = some .local := hy
  have e3 : env.kindOf z = some .local := hz
  have nb := blockKind_fn h0
  have n1 : ¬ x = y := by simpa using hxy
  have n2 : ¬ x = z := by simpa using hxz
  have n3 : ¬ y = z := by simpa using hyz
  refine (if_neg ?_).trans ((if_neg ?_).trans ((if_neg ?_).trans ((if_neg ?_).trans ((if_neg ?_).trans ?_))))
  · rw [nb]
    exact Bool.false_ne_true
  · intro hh
    obtain ⟨w, hw, hq⟩ := List.any_eq_true.mp hh
    simp only [List.mem_cons, List.not_mem_nil, or_false] at hw
    rcases hw with rfl | rfl | rfl
    · cases w <;> first | (cases ha; done) | (cases hq; done)
    · cases w <;> first | (cases hb; done) | (cases hq; done)
    · cases w <;> first | (cases hc; done) | (cases hq; done)
  · simp only [List.filterMap_cons, List.filterMap_nil, e1, e2, e3, List.head?_cons, Option.map_some, Option.getD_some, show (Expr.Name x px).pos.line = px.line from rfl, hl0, hl, hl2, beq_self_eq_true, Bool.and_self, if_pos]
    have m1 : (y == x) = false := beq_eq_false_iff_ne.mpr fun h => n1 h.symm
    have m2 : (z == x) = false := beq_eq_false_iff_ne.mpr fun h => n2 h.symm
    have m3 : (z == y) = false := beq_eq_false_iff_ne.mpr fun h => n3 h.symm
    simp only [List.eraseDups_cons, List.eraseDups_nil, List.filter_cons, List.filter_nil, m1, m2, m3, Bool.not_false, if_pos, List.length_cons, List.length_nil]
    decide
  · rw [h1]
    decide
  · rw [h2]
    decide
  · simp only [List.filterMap_cons, List.filterMap_nil, e1, e2, e3, List.head?_cons, Option.map_some, Option.getD_some, show (Expr.Name x px).pos.line = px.line from rfl, hl0, hl, hl2, beq_self_eq_true, Bool.and_self, if_pos]
end
theorem fresh_snd : ∀ (c : CE) (C : Ct) (e : Expr), isFr c = true → ckE c C e = true → ∀ {X : Cx} {ad : Option Addr} {N : En} {G : Cfg} {k : Nat} (xf : XF X ad N G k C), PE X e (tMF (gd X ad) N (fun env dr => (evE G c false env dr).bind fun d dr => ofO (freshD d) dr))
  | .lst es, C, e, _, h, X, ad, N, G, k, xf => by
    rw [ckE] at h
    split at h
    · rename_i ls p q
      obtain rfl := vList_inv q
      exact m_fresh (m_lst (el := evL G es) (ckL_snd es C ls h xf))
    · cases h
  | .dicE t, C, e, _, h, X, ad, N, G, k, xf => by
    rw [ckE] at h
    split at h
    · rename_i p q
      obtain rfl := vDict_inv q
      exact m_fresh (m_dicE t)
    · cases h
  | .bin op a b, C, e, _, h, X, ad, N, G, k, xf => by
    rw [ckE] at h
    split at h
    · rename_i l o r p q
      obtain rfl := vBinOp_inv q
      simp only [Bool.and_eq_true, decide_eq_true_eq] at h
      obtain ⟨⟨rfl, h1⟩, h2⟩ := h
      exact m_binF (ea := evE G a true) (eb := evE G b true) (ckE_snd a C l h1 xf true) (ckE_snd b C r h2 xf true)
    · cases h
  | .blt f es, C, e, _, h, X, ad, N, G, k, xf => by
    rw [ckE] at h
    split at h
    · rename_i n l ls p q
      obtain rfl := vCall_inv q
      split at h
      · rename_i x p2 q2
        obtain rfl := vName_inv q2
        simp only [Bool.and_eq_true, decide_eq_true_eq] at h
        obtain ⟨⟨⟨rfl, h2⟩, h3⟩, h4⟩ := h
        obtain ⟨g1, g2⟩ := blt_of xf h2
        have h4' := h4
        rw [List.all_cons, Bool.and_eq_true] at h4'
        exact m_bltF (el := evLp G es) xf.calm xf.hu6 g1 g2 (ckLp_snd es C _ h3 xf) (star_cons (by simpa using h4'.1)) (star_any h4'.2)
      · cases h
    · cases h
  | .sl a lo hi, C, e, _, h, X, ad, N, G, k, xf => by
    rw [ckE] at h
    split at h
    · rename_i l r p q
      obtain rfl := vSubscript_inv q
      split at h
      · rename_i x y p2 q2
        obtain rfl := vSlice_inv q2
        simp only [Bool.and_eq_true] at h
        obtain ⟨⟨h1, h2⟩, h3⟩ := h
        exact m_slF (ea := evE G a true) (el := evO G lo) (eh := evO G hi) (ckE_snd a C l h1 xf true) (ckO_snd lo C x h2 xf) (ckO_snd hi C y h3 xf)
      · cases h
    · cases h
  | .lrev a, C, e, _, h, X, ad, N, G, k, xf => by
    rw [ckE] at h
    split at h
    · rename_i n c pos q
      obtain rfl := vCall_inv q
      split at h
      · rename_i x p m l p2 q2 q3
        obtain rfl := vName_inv q2
        obtain rfl := vCall_inv q3
        split at h
        · rename_i y p3 q4
          obtain rfl := vName_inv q4
          simp only [Bool.and_eq_true, decide_eq_true_eq, Bool.not_eq_true'] at h
          obtain ⟨⟨⟨⟨⟨rfl, rfl⟩, h1⟩, h2⟩, h3⟩, h4⟩ := h
          obtain ⟨g1, g2⟩ := blt_of xf h1
          obtain ⟨g3, g4⟩ := blt_of xf h2
          exact m_lrevF (ea := evE G a true) xf.calm g1 g2 g3 g4 (ckE_snd a C l h4 xf true) h3
        · cases h
      · cases h
    · cases h
  | .lc p it t x, C, e, _, h, X, ad, N, G, k, xf => by
    rw [ckE] at h
    split at h
    · rename_i elt tg iter ifs s pos q
      obtain rfl := vListComp_inv q
      simp only [Bool.and_eq_true, Bool.not_eq_true'] at h
      obtain ⟨⟨⟨⟨⟨h1, h2⟩, h3⟩, h4⟩, h5⟩, h6⟩ := h
      exact m_fresh (m_lc (ei := evI G it true) (et := evTs G t) (ee := evE G x false) xf.calm xf.nd (blk_of xf h1) (ownOf_snd C p) (ckI_snd it C tg iter h3 xf true) (fun s H A cl fp => ckP_snd p _ tg h4 (xf.inBlk s H _ A cl fp))
        (fun s H A cl fp => ckTs_snd t _ ifs h5 (xf.inBlk s H _ A cl fp)) (fun s H A cl fp => ckE_snd x _ elt h6 (xf.inBlk s H _ A cl fp) false) (set_fold h2))
    · cases h
  | .var _, _, _, h, _, _, _, _, _, _, _ => nomatch h
  | .non, _, _, h, _, _, _, _, _, _, _ => nomatch h
  | .bl _, _, _, h, _, _, _, _, _, _, _ => nomatch h
  | .int _, _, _, h, _, _, _, _, _, _, _ => nomatch h
  | .str _, _, _, h, _, _, _, _, _, _, _ => nomatch h
  | .glo _, _, _, h, _, _, _, _, _, _, _ => nomatch h
  | .fnv _, _, _, h, _, _, _, _, _, _, _ => nomatch h
  | .nil, _, _, h, _, _, _, _, _, _, _ => nomatch h
  | .cons _ _, _, _, h, _, _, _, _, _, _, _ => nomatch h
  | .scons _ _, _, _, h, _, _, _, _, _, _, _ => nomatch h
  | .neg _, _, _, h, _, _, _, _, _, _, _ => nomatch h
  | .cmp _ _ _, _, _, h, _, _, _, _, _, _, _ => nomatch h
  | .cmp2 _ _ _ _ _, _, _, h, _, _, _, _, _, _, _ => nomatch h
  | .isN _, _, _, h, _, _, _, _, _, _, _ => nomatch h
  | .notN _, _, _, h, _, _, _, _, _, _, _ => nomatch h
  | .ife _ _ _, _, _, h, _, _, _, _, _, _, _ => nomatch h
  | .tup _, _, _, h, _, _, _, _, _, _, _ => nomatch h
  | .call _ _, _, _, h, _, _, _, _, _, _, _ => nomatch h
  | .callv _ _, _, _, h, _, _, _, _, _, _, _ => nomatch h
  | .isi _ _, _, _, h, _, _, _, _, _, _, _ => nomatch h
  | .meth _ _ _, _, _, h, _, _, _, _, _, _, _ => nomatch h
  | .ix _ _, _, _, h, _, _, _, _, _, _, _ => nomatch h
  | .rev _, _, _, h, _, _, _, _, _, _, _ => nomatch h
  | .rng _, _, _, h, _, _, _, _, _, _, _ => nomatch h
  | .enum _, _, _, h, _, _, _, _, _, _, _ => nomatch h
  | .zip _ _, _, _, h, _, _, _, _, _, _, _ => nomatch h
  | .items _, _, _, h, _, _, _, _, _, _, _ => nomatch h
  | .vals _, _, _, h, _, _, _, _, _, _, _ => nomatch h
  | .rvd _, _, _, h, _, _, _, _, _, _, _ => nomatch h
  | .keys _, _, _, h, _, _, _, _, _, _, _ => nomatch h
  | .lc2 _ _ _ _ _ _ _, _, _, h, _, _, _, _, _, _, _ => nomatch h
  | .dc _ _ _ _ _ _, _, _, h, _, _, _, _, _, _, _ => nomatch h
  | .dpop _, _, _, h, _, _, _, _, _, _, _ => nomatch h
  | .dlen _, _, _, h, _, _, _, _, _, _, _ => nomatch h
  | .fstr _, _, _, h, _, _, _, _, _, _, _ => nomatch h
  | .sset _, _, _, h, _, _, _, _, _, _, _ => nomatch h
  | .lset _, _, _, h, _, _, _, _, _, _, _ => nomatch h
  | .cmp3 _ _ _ _ _ _ _, _, _, h, _, _, _, _, _, _, _ => nomatch h
  | .lvals _, _, _, h, _, _, _, _, _, _, _ => nomatch h
  | .litems _, _, _, h, _, _, _, _, _, _, _ => nomatch h
  | .lzip _ _, _, _, h, _, _, _, _, _, _, _ => nomatch h
  | .dsp _ _ _, _, _, h, _, _, _, _, _, _, _ => nomatch h
  | .fmt _, _, _, h, _, _, _, _, _, _, _ => nomatch h
  | .rpr _, _, _, h, _, _, _, _, _, _, _ => nomatch h
  | .dead, _, _, h, _, _, _, _, _, _, _ => nomatch h
  | .and _, _, _, h, _, _, _, _, _, _, _ => nomatch h
  | .or _, _, _, h, _, _, _, _, _, _, _ => nomatch h
  | .not _, _, _, h, _, _, _, _, _, _, _ => nomatch h
theorem ckLo_snd : ∀ (is : List (Nat × Bool)) (c : CE) (C : Ct) (es : List Expr), ckLo is c C es = true → ∀ {X : Cx} {ad : Option Addr} {N : En} {G : Cfg} {k : Nat} (xf : XF X ad N G k C), PA X es (tAo (gd X ad) N (is.map (·.2)) (evLo G is c))
  | [], c, C, es, h, X, ad, N, G, k, xf => by
    cases c <;> try (cases h; done)
    rw [ckLo, List.isEmpty_iff] at h
    subst h
    exact ao_nil
  | (i, o) :: is, c, C, es, h, X, ad, N, G, k, xf => by
    cases c <;> try (cases h; done)
    rename_i c cs
    cases es with
    | nil => cases h
    | cons e es =>
      have h : (!isStar e && (!o || isFr c) && ckE c C e && ckLo is cs C es) = true := h
      simp only [Bool.and_eq_true, Bool.not_eq_true', Bool.or_eq_true] at h
      obtain ⟨⟨⟨h1, h2⟩, h3⟩, h4⟩ := h
      cases o with
      | false => exact ao_val (ea := evE G c false) (el := evLo G is cs) (ckE_snd c C e h3 xf false) (ckLo_snd is cs C es h4 xf) (star_cons h1)
      | true =>
        rcases h2 with h2 | h2
        · cases h2
        · exact ao_own (ea := evE G c false) (el := evLo G is cs) (fresh_snd c C e h2 h3 xf) (ckLo_snd is cs C es h4 xf) (star_cons h1)
theorem setLc_snd {i : Nat} {p : Pat} {it t x : CE} {C : Ct} {tg v : Expr} {pos : Pos} {rest : List Stmt} {X : Cx} {ad : Option Addr} {N : En} {G : Cfg} {k : Nat} {ck : CS} (xs : XS X ad N G k C) (hs : swB i C tg v = true) (h : ckE (.lc p it t x) C v = true) (hk : PSs X rest (tS (gd X ad) N (evB G ck))) (o : Bool) :
    PSs X (.Assign [tg] v pos :: rest) (tS (gd X ad) N (fun env dr => (evE G (.lc p it t x) false env dr).bind fun d dr => (ofO (if o then (freshD d).bind fun d => setSl env i (.own d) else asgP (.nm i) d env) dr).bind fun env dr => evB G ck env dr)) := by
  have xf := xs.toXF
  rw [ckE] at h
  split at h
  · rename_i elt tg2 iter ifs s lp q
    obtain rfl := vListComp_inv q
    unfold swB at hs
    split at hs
    · rename_i t' py _ _ s' lp' q1 q2
      obtain rfl := vName_inv q1
      cases q2
      simp only [Bool.and_eq_true, decide_eq_true_eq, Bool.not_eq_true'] at hs
      obtain ⟨⟨⟨⟨s1, s2⟩, s3⟩, s4⟩, s5⟩ := hs
      simp only [Bool.and_eq_true, Bool.not_eq_true'] at h
      obtain ⟨⟨⟨⟨⟨h1, h2⟩, h3⟩, h4⟩, h5⟩, h6⟩ := h
      have sc1 : X.env.scope.names.lookup t' = some .local := by rw [xs.sc]; exact s2
      exact s_setLcV (ei := evI G it true) (et := evTs G t) (ee := evE G x false) xf.calm xf.nd (by rw [xs.eN]; exact s1) sc1 (swaps_yes (by rw [xs.sc]; exact s3) sc1 s4 s5) (blk_of xf h1) (ownOf_snd C p) (ckI_snd it C tg2 iter h3 xf true) (fun s H A cl fp => ckP_snd p _ tg2 h4 (xf.inBlk s H _ A cl fp))
        (fun s H A cl fp => ckTs_snd t _ ifs h5 (xf.inBlk s H _ A cl fp)) (fun s H A cl fp => ckE_snd x _ elt h6 (xf.inBlk s H _ A cl fp) false) (set_fold h2) hk o
    · cases hs
  · cases h
theorem lc_of {c : CE} (h : isLc c = true) : ∃ p it t x, c = .lc p it t x := by
  cases c <;> first | exact ⟨_, _, _, _, rfl⟩ | cases h
theorem ckB_snd : ∀ (c : CS) (C : Ct) (ss : List Stmt), ckB c C ss = true → ∀ {X : Cx} {ad : Option Addr} {N : En} {G : Cfg} {k : Nat} (xs : XS X ad N G k C), PSs X ss (tS (gd X ad) N (evB G c))
  | .done, C, ss, h, X, ad, N, G, k, xs => by
    rw [ckB, List.isEmpty_iff] at h
    subst h
    exact s_done
  | .dead, C, ss, h, X, ad, N, G, k, xs => ⟨fun pins s σ H D I ⟨env, F, dr, st, k⟩ => k.elim⟩
  | .frz i k', C, ss, h, X, ad, N, G, k, xs => s_frz (ek := evB G k') (ckB_snd k' C ss h xs)
  | .wip i k', C, ss, h, X, ad, N, G, k, xs => s_wip (ek := evB G k') (ckB_snd k' C ss h xs)
  | .aug i op e k', C, [], h, X, ad, N, G, k, xs => nomatch h
  | .aug i op e k', C, s :: ss, h, X, ad, N, G, k, xs => by
    rw [ckB] at h
    split at h
    · rename_i tg o v pos q
      obtain rfl := wAugAssign_inv q
      split at h
      · rename_i x p2 q2
        obtain rfl := vName_inv q2
        simp only [Bool.and_eq_true, decide_eq_true_eq] at h
        obtain ⟨⟨⟨⟨⟨rfl, h1⟩, h2⟩, h3⟩, h4⟩, h5⟩ := h
        have xf := xs.toXF
        exact s_aug (ea := evE G e false) (ek := evB G k') xf.nd (by rw [xf.eN]; exact h1) (by rw [xf.sc]; exact loc_of h2) (fn_ok xf h3) (ckE_snd e C v h4 xf false) (ckB_snd k' C ss h5 xs)
      · cases h
    · cases h
  | .setI i x e k', C, [], h, X, ad, N, G, k, xs => nomatch h
  | .setI i x e k', C, s :: ss, h, X, ad, N, G, k, xs => by
    rw [ckB] at h
    split at h
    · rename_i tg v pos q
      obtain rfl := wAssign_inv q
      split at h
      · rename_i o ix sp q2
        obtain rfl := vSubscript_inv q2
        simp only [Bool.and_eq_true, Bool.not_eq_true'] at h
        obtain ⟨⟨⟨⟨h1, h2⟩, h3⟩, h4⟩, h5⟩ := h
        obtain ⟨z, p2, rfl, hv⟩ := pvar_of xs.toXF h1
        have xf := xs.toXF
        exact s_setI (ea := evE G e false) (ex := evE G x true) (ek := evB G k') (by have := xf.hu; omega) hv (ckE_snd e C v h4 xf false) (ckE_snd x C ix h3 xf true) h2 (show swapsWithSole [.Subscript (.Name z p2) ix sp] v pos.line X.env = pure false from noSw_ok (tg := .Subscript (.Name z p2) ix sp) (v := v) (l := pos.line) xs.sc rfl (by unfold noSw; rw [show vName (.Subscript (.Name z p2) ix sp) = none from rfl]; simp)) (stores_no (by rfl)) (ckB_snd k' C ss h5 xs)
      · cases h
    · cases h
  | .ext i e k', C, [], h, X, ad, N, G, k, xs => nomatch h
  | .ext i e k', C, s :: ss, h, X, ad, N, G, k, xs => by
    rw [ckB] at h
    split at h
    · rename_i x p q
      obtain rfl := wExpr_inv q
      split at h
      · rename_i n l pos q2
        obtain rfl := vCall_inv q2
        split at h
        · rename_i r y apos q3
          obtain rfl := vAttribute_inv q3
          simp only [Bool.and_eq_true, decide_eq_true_eq, Bool.not_eq_true'] at h
          obtain ⟨⟨⟨⟨⟨rfl, h1⟩, h2⟩, h3⟩, h4⟩, h5⟩ := h
          obtain ⟨z, p2, rfl, hv⟩ := pvar_of xs.toXF h2
          exact s_ext (ea := evE G e false) (ek := evB G k') hv (ckE_snd e C l h4 xs.toXF false) h3 h1 (ckB_snd k' C ss h5 xs)
        · cases h
      · cases h
    · cases h
  | .parO is es k', C, [], h, X, ad, N, G, k, xs => nomatch h
  | .parO is es k', C, s :: ss, h, X, ad, N, G, k, xs => by
    rw [ckB] at h
    split at h
    · rename_i tg v pos q
      obtain rfl := wAssign_inv q
      split at h
      · rename_i ts kt pt vs k2 pt2 q1 q2
        obtain rfl := vTuple_inv q1
        obtain rfl := vTuple_inv q2
        split at h
        · rename_i i oi j oj n1 n2 e1 e2
          split at h
          · rename_i x px y py q3 q4
            obtain rfl := vName_inv q3
            obtain rfl := vName_inv q4
            rw [Bool.and_eq_true, Bool.and_eq_true] at h
            obtain ⟨⟨hp, hl⟩, hk⟩ := h
            unfold par2B at hp
            simp only [Bool.and_eq_true, decide_eq_true_eq, Bool.not_eq_true', decide_eq_false_iff_not] at hp
            obtain ⟨⟨⟨⟨⟨⟨⟨⟨⟨⟨⟨⟨⟨h0, h1⟩, h2⟩, h3⟩, h4⟩, h5⟩, h6⟩, h7⟩, h8⟩, h9⟩, ha⟩, hb⟩, hc⟩, hd⟩ := hp
            have xf := xs.toXF
            have lx : X.env.scope.names.lookup x = some .local := by rw [xf.sc]; exact h6
            have ly : X.env.scope.names.lookup y = some .local := by rw [xf.sc]; exact h7
            exact s_par2 (ev := evLo G [(i, oi), (j, oj)] es) (ek := evB G k') xf.calm xf.nd (by rw [xf.eN]; exact h1) (by rw [xf.eN]; exact h2) h3 lx ly (ckLo_snd _ es C _ hl xf)
              (stores_two (by rw [xf.sc]; exact h0) lx ly h8 h9 h4 h5 ha hb hc hd) (ckB_snd k' C ss hk xs)
          · cases h
        · rename_i i oi j oj m om n1 n2 n3 e1 e2 e3
          split at h
          · rename_i x px y py z pz q3 q4 q5
            obtain rfl := vName_inv q3
            obtain rfl := vName_inv q4
            obtain rfl := vName_inv q5
            rw [Bool.and_eq_true, Bool.and_eq_true] at h
            obtain ⟨⟨hp, hl⟩, hk⟩ := h
            unfold par3B at hp
            simp only [Bool.and_eq_true, decide_eq_true_eq, Bool.not_eq_true', decide_eq_false_iff_not] at hp
            obtain ⟨⟨⟨⟨⟨⟨⟨⟨⟨⟨⟨⟨⟨⟨⟨⟨⟨⟨⟨⟨h0, h1⟩, h2⟩, h3⟩, h4⟩, h5⟩, h6⟩, g1⟩, g2⟩, g3⟩, l1⟩, l2⟩, l3⟩, p1⟩, p2⟩, p3⟩, ha⟩, hb⟩, hc⟩, hd⟩, he⟩ := hp
            have xf := xs.toXF
            have lx : X.env.scope.names.lookup x = some .local := by rw [xf.sc]; exact l1
            have ly : X.env.scope.names.lookup y = some .local := by rw [xf.sc]; exact l2
            have lz : X.env.scope.names.lookup z = some .local := by rw [xf.sc]; exact l3
            exact s_par3 (ev := evLo G [(i, oi), (j, oj), (m, om)] es) (ek := evB G k') xf.calm xf.nd (by rw [xf.eN]; exact h1) (by rw [xf.eN]; exact h2) (by rw [xf.eN]; exact h3) h4 h5 h6 lx ly lz (ckLo_snd _ es C _ hl xf)
              (stores_three (by rw [xf.sc]; exact h0) lx ly lz p1 p2 p3 g1 g2 g3 ha hb hc hd he) (ckB_snd k' C ss hk xs)
          · cases h
        · cases h
      · cases h
    · cases h
  | .whl c b k', C, [], h, X, ad, N, G, k, xs => nomatch h
  | .whl c b k', C, s :: ss, h, X, ad, N, G, k, xs => by
    rw [ckB] at h
    split at h
    · rename_i c' b' pos q
      obtain rfl := wWhile_inv q
      simp only [Bool.and_eq_true] at h
      exact s_whl (fuel := G.fuel) (ec := evT G c) (eb := evB G b) (ek := evB G k') xs.own (ckT_snd c C c' h.1.1 xs.toXF) (ckB_snd b C b' h.1.2 xs) (ckB_snd k' C ss h.2 xs)
    · cases h
  | .ex e k', C, [], h, X, ad, N, G, k, xs => nomatch h
  | .ex e k', C, s :: ss, h, X, ad, N, G, k, xs => by
    rw [ckB] at h
    split at h
    · rename_i x p q
      obtain rfl := wExpr_inv q
      simp only [Bool.and_eq_true, Bool.not_eq_true'] at h
      exact s_ex (ea := evE G e false) (ek := evB G k') (ckE_snd e C x h.1.2 xs.toXF false) (swaps_no h.1.1) (ckB_snd k' C ss h.2 xs)
    · cases h
  | .asg p e k', C, [], h, X, ad, N, G, k, xs => nomatch h
  | .asg p e k', C, s :: ss, h, X, ad, N, G, k, xs => by
    rw [ckB] at h
    split at h
    · rename_i tg v pos q
      obtain rfl := wAssign_inv q
      rw [Bool.and_eq_true, Bool.and_eq_true] at h
      obtain ⟨⟨h1, h2⟩, h3⟩ := h
      have ih := ckB_snd k' C ss h3 xs
      cases hc : noSw C tg v with
      | false =>
        rw [hc, if_neg Bool.false_ne_true] at h1
        cases p with
        | nm i =>
          dsimp only at h1
          rw [Bool.and_eq_true] at h1
          obtain ⟨p', it, t, x, rfl⟩ := lc_of h1.2
          exact setLc_snd xs h1.1 h2 ih false
        | _ => cases h1
      | true =>
        rw [hc, if_pos rfl] at h1
        simp only [Bool.and_eq_true, Bool.not_eq_true'] at h1
        exact s_asg (ea := evE G e false) (ek := evB G k') (ckE_snd e C v h2 xs.toXF false) (ckP_snd p C tg h1.1.2 xs.toXF) (noSw_ok xs.sc h1.1.1 hc) (stores_no h1.2) (sole_asg h1.1.1) ih
    · cases h
  | .own i e k', C, [], h, X, ad, N, G, k, xs => nomatch h
  | .own i e k', C, s :: ss, h, X, ad, N, G, k, xs => by
    rw [ckB] at h
    split at h
    · rename_i tg v pos q
      obtain rfl := wAssign_inv q
      rw [Bool.and_eq_true, Bool.and_eq_true] at h
      obtain ⟨⟨h1, h2⟩, h3⟩ := h
      have ih := ckB_snd k' C ss h3 xs
      cases hc : noSw C tg v with
      | false =>
        rw [hc, if_neg Bool.false_ne_true, Bool.and_eq_true] at h1
        obtain ⟨p', it, t, x, rfl⟩ := lc_of h1.2
        exact setLc_snd xs h1.1 h2 ih true
      | true =>
        rw [hc, if_pos rfl, Bool.and_eq_true] at h1
        obtain ⟨hf, hp⟩ := h1
        have hp2 := hp
        rw [ckP] at hp
        split at hp
        · rename_i x p2 q2
          obtain rfl := vName_inv q2
          simp only [Bool.and_eq_true, decide_eq_true_eq] at hp
          have xf := xs.toXF
          exact s_own (ea := evE G e false) (ek := evB G k') xf.nd (by rw [xf.eN]; exact hp.1.1) (by rw [xf.sc]; exact loc_of hp.1.2) (fn_ok xf hp.2) (fresh_snd e C v hf h2 xf) (noSw_ok xs.sc rfl hc) ih
        · cases hp
    · cases h
  | .par i j a b k', C, [], h, X, ad, N, G, k, xs => nomatch h
  | .par i j a b k', C, s :: ss, h, X, ad, N, G, k, xs => by
    rw [ckB] at h
    split at h
    · rename_i tg v pos q
      obtain rfl := wAssign_inv q
      split at h
      · rename_i n1 n2 _ _ e1 e2 _ _ q1 q2
        obtain rfl := vTuple_inv q1
        obtain rfl := vTuple_inv q2
        split at h
        · rename_i x px y py q3 q4
          obtain rfl := vName_inv q3
          obtain rfl := vName_inv q4
          simp only [Bool.and_eq_true, decide_eq_true_eq, Bool.not_eq_true', decide_eq_false_iff_not] at h
          obtain ⟨⟨⟨⟨⟨⟨⟨⟨⟨⟨⟨⟨⟨⟨⟨⟨h0, h1⟩, h2⟩, h3⟩, h4⟩, h5⟩, h6⟩, h7⟩, h8⟩, h9⟩, ha⟩, hb⟩, hc⟩, hd⟩, he⟩, hf⟩, hg⟩ := h
          have xf := xs.toXF
          have lx : X.env.scope.names.lookup x = some .local := by rw [xf.sc]; exact h6
          have ly : X.env.scope.names.lookup y = some .local := by rw [xf.sc]; exact h7
          exact s_par (ea := evE G a false) (eb := evE G b false) (ek := evB G k') xf.calm xf.nd (by rw [xf.eN]; exact h1) (by rw [xf.eN]; exact h2) h3 lx ly (ckE_snd a C e1 he xf false) (ckE_snd b C e2 hf xf false) ha hb
            (stores_two (by rw [xf.sc]; exact h0) lx ly h8 h9 h4 h5 ha hb hc hd) (ckB_snd k' C ss hg xs)
        · cases h
      · cases h
    · cases h
  | .ifs c a b k', C, [], h, X, ad, N, G, k, xs => nomatch h
  | .ifs c a b k', C, s :: ss, h, X, ad, N, G, k, xs => by
    rw [ckB] at h
    split at h
    · rename_i c' a' b' pos q
      obtain rfl := wIf_inv q
      simp only [Bool.and_eq_true] at h
      exact s_if (et := evT G c) (ea := evB G a) (eb := evB G b) (ek := evB G k') (ckT_snd c C c' h.1.1.1 xs.toXF) (ckB_snd a C a' h.1.1.2 xs) (ckB_snd b C b' h.1.2 xs) (ckB_snd k' C ss h.2 xs)
    · cases h
  | .for_ p it b k', C, [], h, X, ad, N, G, k, xs => nomatch h
  | .for_ p it b k', C, s :: ss, h, X, ad, N, G, k, xs => by
    rw [ckB] at h
    split at h
    · rename_i tg it' b' pos q
      obtain rfl := wFor_inv q
      simp only [Bool.and_eq_true, Bool.not_eq_true'] at h
      exact s_for (ei := evI G it false) (eb := evB G b) (ek := evB G k') xs.own xs.calm (ckI_snd it C tg it' h.1.1.2 xs.toXF false) (ckP_snd p C tg h.1.1.1.2 xs.toXF) (ckB_snd b C b' h.1.2 xs) (set_fold h.1.1.1.1) (ckB_snd k' C ss h.2 xs)
    · cases h
  | .brk, C, ss, h, X, ad, N, G, k, xs => by
    obtain ⟨p, r, rfl⟩ := isBrk_eq h
    exact s_brk
  | .cnt, C, ss, h, X, ad, N, G, k, xs => by
    obtain ⟨p, r, rfl⟩ := isCnt_eq h
    exact s_cnt
  | .ret e, C, [], h, X, ad, N, G, k, xs => nomatch h
  | .ret e, C, s :: ss, h, X, ad, N, G, k, xs => by
    rw [ckB] at h
    split at h
    · rename_i x p q
      obtain rfl := wReturn_inv q
      exact s_ret (ea := evE G e false) (ckE_snd e C x h xs.toXF false)
    · cases h
  | .ret0, C, [], h, X, ad, N, G, k, xs => nomatch h
  | .ret0, C, s :: ss, h, X, ad, N, G, k, xs => by
    rw [ckB] at h
    split at h
    · rename_i p q
      obtain rfl := wReturn_inv q
      exact s_ret0
    · cases h
  | .rse x e, C, [], h, X, ad, N, G, k, xs => nomatch h
  | .rse x e, C, s :: ss, h, X, ad, N, G, k, xs => by
    rw [ckB] at h
    split at h
    · rename_i r p q
      obtain rfl := wRaise_inv q
      split at h
      · rename_i n m p2 q2
        obtain rfl := vCall_inv q2
        split at h
        · rename_i y p3 m' j p4 q3 q4
          obtain rfl := vName_inv q3
          obtain rfl := vConstant_inv q4
          simp only [Bool.and_eq_true, decide_eq_true_eq] at h
          obtain ⟨⟨⟨h1, rfl⟩, h2⟩, h3⟩ := h
          obtain rfl := isNil_eq h1
          exact s_rse xs h2 h3
        · cases h
      · cases h
    · cases h
  | .tryF x f i b k', C, [], h, X, ad, N, G, k, xs => nomatch h
  | .tryF x f i b k', C, s :: ss, h, X, ad, N, G, k, xs => by
    rw [ckB] at h
    split at h
    · rename_i b' cl n st p0 p q
      obtain rfl := wTry_inv q
      split at h
      · rename_i y p1 rv p2 q1 q2
        obtain rfl := vName_inv q1
        obtain rfl := wReturn_inv q2
        split at h
        · rename_i g ar p3 q3
          obtain rfl := vCall_inv q3
          split at h
          · rename_i g' p4 n' p5 q4 q5
            obtain rfl := vName_inv q4
            obtain rfl := vName_inv q5
            simp only [Bool.and_eq_true, decide_eq_true_eq, Bool.not_eq_true'] at h
            obtain ⟨⟨⟨⟨⟨⟨⟨⟨⟨⟨⟨⟨rfl, h1⟩, h2⟩, rfl⟩, h3⟩, h4⟩, rfl⟩, h5⟩, h6⟩, h7⟩, h8⟩, h9⟩, ha⟩ := h
            exact s_tryF xs h1 h2 h3 h4 h5 h6 h7 h8 (fun W pn xe t o => ckB_snd b C b' h9 (xs.tr t o)) (ckB_snd k' C ss ha xs)
          · cases h
        · cases h
      · cases h
    · cases h
  | .par3 _ _ _ _ _ _ _, C, ss, h, X, ad, N, G, k, xs => nomatch h
  | .app i e k', C, [], h, X, ad, N, G, k, xs => nomatch h
  | .app i e k', C, s :: ss, h, X, ad, N, G, k, xs => by
    rw [ckB] at h
    split at h
    · rename_i x p q
      obtain rfl := wExpr_inv q
      split at h
      · rename_i n l pos q2
        obtain rfl := vCall_inv q2
        split at h
        · rename_i r y apos q3
          obtain rfl := vAttribute_inv q3
          simp only [Bool.and_eq_true, decide_eq_true_eq, Bool.not_eq_true'] at h
          obtain ⟨⟨⟨⟨⟨rfl, h1⟩, h2⟩, h3⟩, h4⟩, h5⟩ := h
          obtain ⟨z, p2, rfl, hv⟩ := pvar_of xs.toXF h2
          exact s_app (ea := evE G e false) (ek := evB G k') hv (ckE_snd e C l h4 xs.toXF false) h3 h1 (ckB_snd k' C ss h5 xs)
        · cases h
      · cases h
    · cases h
  | .forD p i b k', C, [], h, X, ad, N, G, k, xs => nomatch h
  | .forD p i b k', C, s :: ss, h, X, ad, N, G, k, xs => by
    rw [ckB] at h
    split at h
    · rename_i tg it' b' pos q
      obtain rfl := wFor_inv q
      simp only [Bool.and_eq_true] at h
      obtain ⟨⟨⟨h1, h2⟩, h3⟩, h4⟩ := h
      obtain ⟨z, p2, rfl, hv⟩ := pvar_of xs.toXF h1
      exact s_forD (eb := evB G b) (ek := evB G k') xs.own xs.calm hv (ckP_snd p C tg h2 xs.toXF) (ckB_snd b C b' h3 xs) (ckB_snd k' C ss h4 xs)
    · cases h
  | .augI _ _ _ _ _, C, ss, h, X, ad, N, G, k, xs => nomatch h
  | .popS _ _ _, C, ss, h, X, ad, N, G, k, xs => nomatch h
  | .popD _ _ _ _, C, ss, h, X, ad, N, G, k, xs => nomatch h
end Cr
/-! A whole program of the core language: each def of it does what its text says. -/
namespace Cr
open PySem PySem.Spec PyProof.Rows L2 L2H

/-- a def: its name, its slots' names (the parameters first), how many parameters, its text -/
structure DD where
  nm : Str
  N : List Str
  n : Nat
  body : CS
structure Pr where
  ds : List DD
  cons : List (Str × D)
  bl : List Str
  exc : List Str
  tcl : List Str
  flg : List (Str × Str × List Str)
  err : List Str
  isub : Str → Str → Bool

/-- how often a loop may turn: as often as is wished -/
noncomputable def fuelN : Nat := Classical.choose (⟨1000000, Nat.le_refl _⟩ : ∃ n : Nat, 1000000 ≤ n)
theorem fuel_le : 1000000 ≤ fuelN := Classical.choose_spec (⟨1000000, Nat.le_refl _⟩ : ∃ n : Nat, 1000000 ≤ n)
noncomputable def Pr.base (p : Pr) : Cfg where
  fns := fun _ => none
  cons := fun x => p.cons.lookup x
  ar := fun x => (p.ds.find? fun d => d.nm == x).map (·.n)
  fuel := fuelN
  sub := fun e x => if p.err.contains e && p.tcl.contains x then some (p.isub e x) else none
  flg := fun f e => if p.err.contains e then (p.flg.lookup f).map fun q => .lst (q.2.map fun c => .bl (p.isub e c)) else none
def Pr.find (p : Pr) (x : Str) : Option DD := p.ds.find? fun d => d.nm == x
/-- the calls' depth is j at most -/
noncomputable def Pr.at (p : Pr) : Nat → Cfg
  | 0 => { p.base with fns := fun x => (p.find x).map fun _ => fun _ _ => .bad }
  | j + 1 => { p.base with fns := fun x => (p.find x).map fun d => callD (p.at j) d.N.length d.body }
def Pr.ct (p : Pr) (d : DD) (sc : Scope) : Ct := ⟨d.N, sc, none, p.ds.map fun d => (d.nm, d.n), p.cons.map (·.1), p.bl, p.exc, p.tcl, p.flg.map (·.1)⟩

theorem mem_of {l : List Str} {x : Str} (h : l.contains x = true) : x ∈ l := by simpa using h
/-- a constant that is no object -/
def conV : D → Option V
  | .non => some .non
  | .bl b => some (.bl b)
  | .int i => some (.int i)
  | .str s => some (.str s)
  | _ => none
theorem conV_rep {g : Gd} {F : Hp} {d : D} {v : V} (h : conV d = some v) : Rep g F d v := by
  cases d <;> first | (cases h; rfl) | cases h

structure PrOk (p : Pr) (K : PySem.W.Frag) (mg : Str → Option Value) : Prop where
  ds : ∀ d ∈ p.ds, ∃ (f : Addr) (fd : FuncData) (pr : Arguments) (bd : List Stmt) (sc : Scope), FunD K d.nm d.nm pr bd sc [] [] f fd ∧ mg d.nm = some (.ref f) ∧ FnScope d.N (d.N.take d.n) sc ∧ Binds K fd (d.N.take d.n) [] ∧ ckB d.body (p.ct d sc) bd = true ∧ d.n ≤ d.N.length
  uniq : ∀ d ∈ p.ds, p.find d.nm = some d
  bl : ∀ x ∈ p.bl, mg x = none
  cons : ∀ x d, p.cons.lookup x = some d → ∃ v u, mg x = some u ∧ RelV v u ∧ conV d = some v
  exc : ∀ x ∈ p.exc, ∃ (Ca : Addr) (B n i : String) (bm : List Value), ExcBaseFacts B n i bm ∧ PySem.W.excIn K Ca bm n = true ∧ mg x = some (.ref Ca) ∧ PySem.W.keepIn K (.ref Ca) = true ∧ PySem.W.subIn K (.ref Ca) (.type "BaseException") = some true ∧ PySem.W.typeIn K (.ref Ca) = some (.type "type")
  tcl : ∀ x ∈ p.tcl, ∃ c, mg x = some c ∧ ∀ e ∈ p.err, ∀ cls, mg e = some cls → PySem.W.exmOne K cls c = some (p.isub e x)
  err : ∀ e ∈ p.err, ∃ Da : Addr, mg e = some (.ref Da) ∧ ExcC K Da ∧ ∀ q ∈ p.flg, ∀ c ∈ q.2.2, ∃ Dc : Addr, mg c = some (.ref Dc) ∧ PySem.W.kitOne K (.ref Da) (.ref Dc) = some (p.isub e c)
  flg : ∀ q ∈ p.flg, ∃ (f : Addr) (fd : FuncData) (pr : Arguments) (bd : List Stmt) (sc : Scope), FunD K q.1 q.1 pr bd sc [] [] f fd ∧ mg q.1 = some (.ref f) ∧ FnScope [q.2.1] [q.2.1] sc ∧ Binds K fd [q.2.1] [] ∧ flBody q.2.1 bd = some q.2.2 ∧
    sc.names.lookup ("isinstance" : Str) = some .globalImplicit ∧ (∀ c ∈ q.2.2, sc.names.lookup c = some .globalImplicit ∧ (c == ("__debug__" : Str)) = false) ∧ (visB sc q.2.1 = true ∧ (q.2.1 == ("__debug__" : Str)) = false ∧ (q.2.1 == ("__classdict__" : Str)) = false) ∧ mg "isinstance" = none ∧ q.2.2.length ≤ sizeLine

def FnX (P : Program) (w : World) (K : PySem.W.Frag) (mg : Str → Option Value) (base : Heap) (k : Nat) (x : Str) (n : Nat) (fn : List D → List Int → Res D) : Prop :=
  ∃ f fd ps, mg x = some (.ref f) ∧ PySem.W.keepIn K (.ref f) = true ∧ Binds K fd ps [] ∧ FnOk P w K mg base (L2N.CX P w) k f fd ps (spD K mg n fn)

theorem Pr.at_sub (p : Pr) (j : Nat) : (p.at j).sub = p.base.sub := by cases j <;> rfl
theorem Pr.at_flg (p : Pr) (j : Nat) : (p.at j).flg = p.base.flg := by cases j <;> rfl
theorem Pr.at_ar (p : Pr) (j : Nat) : (p.at j).ar = p.base.ar := by cases j <;> rfl
theorem look_find : ∀ (ds : List DD) (x : Str), (ds.map fun d => (d.nm, d.n)).lookup x = (ds.find? fun d => d.nm == x).map (·.n)
  | [], _ => rfl
  | d :: ds, x => by
    rw [List.map_cons, List.lookup_cons, List.find?_cons, look_find ds x]
    by_cases h : x = d.nm
    · rw [beq_iff_eq.mpr h, beq_iff_eq.mpr h.symm]
      rfl
    · rw [beq_eq_false_iff_ne.mpr h, beq_eq_false_iff_ne.mpr fun z => h z.symm]
theorem Pr.at_cons (p : Pr) (j : Nat) : (p.at j).cons = p.base.cons := by cases j <;> rfl
theorem lookup_ds {ds : List DD} {x : Str} {n : Nat} (h : (ds.map fun d => (d.nm, d.n)).lookup x = some n) : ∃ d ∈ ds, d.nm = x ∧ d.n = n := by
  have := PySem.mem_of_lookup h
  obtain ⟨d, hd, e⟩ := List.mem_map.mp this
  cases e
  exact ⟨d, hd, rfl, rfl⟩
theorem kits_of {K : PySem.W.Frag} {mg : Str → Option Value} {Da : Addr} {f : Str → Bool} : ∀ {cs : List Str}, (∀ c ∈ cs, ∃ Dc : Addr, mg c = some (.ref Dc) ∧ PySem.W.kitOne K (.ref Da) (.ref Dc) = some (f c)) → kits K mg Da cs (cs.map f)
  | [], _ => rfl
  | c :: cs, h => by
    obtain ⟨Dc, e1, e2⟩ := h c List.mem_cons_self
    exact ⟨_, _, Dc, rfl, e1, e2, kits_of fun c hc => h c (List.mem_cons_of_mem _ hc)⟩
theorem start_get {g : Gd} {F : Hp} : ∀ {ds : List D} {vs : List V} (r : Reps g F ds vs) (m i : Nat), match get (ds.map Sl.val ++ List.replicate m Sl.no) i with
    | .val d => ∃ v, (vs.map some ++ List.replicate m none)[i]? = some (some v) ∧ Rep g F d v
    | .own _ => False
    | .no => True
  | [], vs, r, m, i => by
    cases (show vs = [] from r)
    have : get (([] : List D).map Sl.val ++ List.replicate m Sl.no) i = .no := by
      unfold get
      rw [List.map_nil, List.nil_append, List.getD_eq_getElem?_getD, List.getElem?_replicate]
      split <;> rfl
    rw [this]
    trivial
  | d :: ds, _, r, m, 0 => by
    obtain ⟨v, vs, rfl, r1, r2⟩ := r
    exact ⟨v, rfl, r1⟩
  | d :: ds, _, r, m, i + 1 => by
    obtain ⟨v, vs, rfl, r1, r2⟩ := r
    exact start_get r2 m i
theorem start_ok {g : Gd} {F H : Hp} {ds : List D} {vs : List V} {dr : List Int} {N : List Str} (po : Post g F H F H dr) (r : Reps g F ds vs) : StR g F H (L2.start N vs) (ds.map .val ++ List.replicate (N.length - ds.length) .no) F H dr := by
  have hl := r.len
  unfold L2.start
  rw [hl]
  refine ⟨po, by simp [hl], fun i => ?_, fun i j d e p h1 h2 h3 h4 => ?_⟩
  · have := start_get r (N.length - ds.length) i
    revert this
    cases get (ds.map Sl.val ++ List.replicate (N.length - ds.length) Sl.no) i with
    | no => exact fun _ => trivial
    | val d => exact fun h => h
    | own d => exact fun h => h.elim
  · have := start_get r (N.length - ds.length) i
    rw [h1] at this
    exact this.elim
section
variable {p : Pr} {P : Program} {w : World} {K : PySem.W.Frag} {mg : Str → Option Value} {base : Heap}
theorem xs_of (ok : PrOk p K mg) {d : DD} {sc : Scope} (S : FnScope d.N (d.N.take d.n) sc) {j : Nat} (ih : ∀ d ∈ p.ds, ∃ fn, (p.at j).fns d.nm = some fn ∧ FnX P w K mg base (j + 1) d.nm d.n fn) {f : Addr} {cdv : Value} {A : Around} {outer : List PySem.Env} {s : Shared} {H : Hp} {E : XK} {ad : Option Addr} {F H0 : Hp}
    (hr : Room (j + 1) (A.deeper (envOfC d.nm sc s.heap.objs.size f cdv))) : XS (cxOf (L2N.CX P w) P w K mg base d.N d.nm sc f cdv A outer s H E) ad ⟨F, H0, fun cls dd _ H => E cls dd H⟩ (p.at j) (j + 1) (p.ct d sc) where
  calm := rfl
  nd := S.nd
  eN := rfl
  sc := rfl
  room := hr
  fns := fun x n h => by
    obtain ⟨d', hd', rfl, rfl⟩ := lookup_ds h
    obtain ⟨fn, e, f, fd, ps, h1, h2, h3, h4⟩ := ih d' hd'
    exact ⟨fn, e, ⟨f, fd, ps, h1, h2, h3, h4⟩⟩
  mgb := fun x h => ok.bl x (mem_of h)
  arOk := fun x n h => by
    rw [Pr.at_ar] at h
    exact (look_find p.ds x).trans h
  cons := fun x h => by
    have hx : x ∈ p.cons.map (·.1) := mem_of h
    obtain ⟨q, hq, rfl⟩ := List.mem_map.mp hx
    cases e : p.cons.lookup q.1 with
    | none =>
      rw [List.lookup_eq_none_iff] at e
      have := e q hq
      simp at this
    | some d =>
      obtain ⟨v, u, h1, h2, h3⟩ := ok.cons _ d e
      exact ⟨d, v, u, by rw [Pr.at_cons]; exact e, h1, h2, fun F => conV_rep h3⟩
  tk := fun σ => L2N.passAt (L2N.takes_of rfl rfl rfl rfl) σ
  top := fun _ _ => rfl
  blk := fun s h => nomatch h
  one := Nat.succ_le_succ (Nat.zero_le _)
  raw := rfl
  stk := rfl
  frm := rfl
  own := passes_of rfl
  tk2 := L2N.takes_of rfl rfl rfl rfl
  exc := fun x h => by
    obtain ⟨Ca, B, n, i, bm, f1, f2, f3, f4, f5, f6⟩ := ok.exc x (mem_of h)
    exact ⟨Ca, B, n, i, bm, f1, f2, f3, f4, raises_own f5 f6⟩
  sub := fun x h => by
    obtain ⟨c, h1, h2⟩ := ok.tcl x (mem_of h)
    refine ⟨c, .inl h1, fun e b cls h3 h4 => ?_⟩
    rw [Pr.at_sub] at h3
    have h3 : (if p.err.contains e && p.tcl.contains x then some (p.isub e x) else none) = some b := h3
    split at h3
    · rename_i hh
      cases h3
      rw [Bool.and_eq_true] at hh
      exact h2 e (by simpa using hh.1) cls h4
    · cases h3
  flg := fun f h => by
    have hx : f ∈ p.flg.map (·.1) := mem_of h
    obtain ⟨q, hq, rfl⟩ := List.mem_map.mp hx
    cases e : p.flg.lookup q.1 with
    | none =>
      rw [List.lookup_eq_none_iff] at e
      have := e q hq
      simp at this
    | some t =>
      have hq2 := PySem.mem_of_lookup e
      obtain ⟨fa, fd, pr, bd, sc2, F1, F2, F3, F4, F5, F6, F7, F8, F9, F10⟩ := ok.flg _ hq2
      refine ⟨fa, fd, t.1, F2, F1.kp, F4, fun cls d Dv h1 h2 => ?_⟩
      rw [Pr.at_flg] at h1
      have h1 : (if p.err.contains cls then (p.flg.lookup q.1).map fun q => D.lst (q.2.map fun c => D.bl (p.isub cls c)) else none) = some d := h1
      split at h1
      · rename_i hc
        rw [e] at h1
        cases h1
        obtain ⟨Da, e1, e2, e3⟩ := ok.err cls (by simpa using hc)
        have e4 : some (Value.ref Da) = some Dv := e1.symm.trans h2
        cases e4
        refine ⟨Nat.succ_le_succ (Nat.zero_le _), Da, t.2.map (p.isub cls), rfl, by rw [List.map_map]; rfl, by rw [List.length_map]; exact F10, fun a ob hz hf => ?_⟩
        exact fl_ok F1 F3 F5 e2 hz hf (kits_of fun c hc => e3 _ hq2 c hc) F6 F7 F8 F9 (by rw [List.length_map]; exact F10)
      · cases h1
theorem all_ok (ok : PrOk p K mg) : ∀ (j : Nat), ∀ d ∈ p.ds, ∃ fn, (p.at j).fns d.nm = some fn ∧ FnX P w K mg base (j + 1) d.nm d.n fn
  | 0, d, hd => by
    obtain ⟨f, fd, pr, bd, sc, F, hm, S, hb, hck, hn⟩ := ok.ds d hd
    refine ⟨fun _ _ => .bad, ?_, f, fd, _, hm, F.kp, hb, ⟨fun vs H Q E h => ?_, fun _ _ _ _ _ _ _ _ _ _ _ _ _ h => ?_⟩⟩
    · show (p.find d.nm).map _ = _
      rw [ok.uniq d hd]
      rfl
    · rw [List.length_take, Nat.min_eq_left hn]
      exact h.1
    · obtain ⟨_, _, _, _, _, _, _, _, _, z⟩ := h
      exact z.elim
  | j + 1, d, hd => by
    obtain ⟨f, fd, pr, bd, sc, F, hm, S, hb, hck, hn⟩ := ok.ds d hd
    have ih := all_ok ok j
    refine ⟨callD (p.at j) d.N.length d.body, ?_, f, fd, _, hm, F.kp, hb, ?_⟩
    · show (p.find d.nm).map _ = _
      rw [ok.uniq d hd]
      rfl
    · refine F.ok S (fun vs H Q E h => ?_) fun cdv A outer s H vs Q E hr h => ?_
      · rw [List.length_take, Nat.min_eq_left hn]
        exact h.1
      · obtain ⟨hl, ad, F0, ds, dr, sb, fd0, hd0, r, k⟩ := h
        have xs := xs_of (P := P) (w := w) (base := base) (outer := outer) (E := E) (ad := ad) (F := F0) (H0 := H) (H := H) ok S ih hr
        refine ⟨_, ckB_snd d.body _ bd hck xs, ?_⟩
        have po : Post ⟨K, mg, ad⟩ F0 H F0 H dr := Post.refl sb fd0 hd0
        refine ⟨ds.map Sl.val ++ List.replicate (d.N.length - ds.length) Sl.no, F0, dr, start_ok (N := d.N) po r, ?_⟩
        unfold callD at k
        split at k
        · refine (post_bind k).imp (fun fl dr1 z => ?_) fun _ _ z cls dd _ H1 F1 a b => z cls dd H1 F1 a b
          cases fl with
          | nx env => exact fun σ' H' F' st2 s2 => z .non H' F' st2.po rfl
          | rt d => exact z
          | bk env => exact z.elim
          | ct env => exact z.elim
        · exact k.elim
end
end Cr
/-! The law's own def: the draws are made of the script, the rest is of the core language. -/
namespace Cr
open PySem PySem.Spec PyProof.Rows L2 L2H

/-- draws = _law_draws(script), then the rest -/
def lawRest (C : Ct) : List Stmt → Option (List Stmt)
  | s :: rest => match wAssign s with
    | some ([t], v, _) => (match vName t, vCall v with
      | some (y, _), some (g, [a], [], _) => (match vName g, vName a with
        | some (f, _), some (x, _) => if (decide (C.N[0]? = some x) && visB C.sc x && !(x == ("__debug__" : Str)) && !(x == ("__classdict__" : Str)) && decide (C.N[1]? = some y) && locB C.sc y && decide (f = ("_law_draws" : Str)) && gloB C f) = true then some rest else none
        | _, _ => none)
      | _, _ => none)
    | _ => none
  | [] => none
theorem lawRest_inv {C : Ct} {bd rest : List Stmt} (h : lawRest C bd = some rest) : ∃ (x y : Str) (p1 p2 p3 p4 p5 : Pos), bd = .Assign [.Name y p1] (.Call (.Name "_law_draws" p2) [.Name x p3] [] p4) p5 :: rest ∧ C.N[0]? = some x ∧ visB C.sc x = true ∧ (x == ("__debug__" : Str)) = false ∧ (x == ("__classdict__" : Str)) = false ∧ C.N[1]? = some y ∧ locB C.sc y = true ∧ gloB C "_law_draws" = true := by
  match bd, h with
  | s :: r, h0 =>
    clear h
    have h : (match wAssign s with
      | some ([t], v, _) => (match vName t, vCall v with
        | some (y, _), some (g, [a], [], _) => (match vName g, vName a with
          | some (f, _), some (x, _) => if (decide (C.N[0]? = some x) && visB C.sc x && !(x == ("__debug__" : Str)) && !(x == ("__classdict__" : Str)) && decide (C.N[1]? = some y) && locB C.sc y && decide (f = ("_law_draws" : Str)) && gloB C f) = true then some r else none
          | _, _ => none)
        | _, _ => none)
      | _ => none) = some rest := h0
    clear h0
    split at h
    · rename_i t v p q
      obtain rfl := wAssign_inv q
      split at h
      · rename_i y p1 g a p2 q1 q2
        obtain rfl := vName_inv q1
        obtain rfl := vCall_inv q2
        split at h
        · rename_i f p3 x p4 q3 q4
          obtain rfl := vName_inv q3
          obtain rfl := vName_inv q4
          split at h
          · rename_i hh
            cases h
            simp only [Bool.and_eq_true, decide_eq_true_eq, Bool.not_eq_true'] at hh
            obtain ⟨⟨⟨⟨⟨⟨⟨h1, h2⟩, h3⟩, h4⟩, h5⟩, h6⟩, rfl⟩, h7⟩ := hh
            exact ⟨x, y, _, _, _, _, _, rfl, h1, h2, h3, h4, h5, h6, h7⟩
          · cases h
        · cases h
      · cases h
    · cases h
/-- what the law's def promises -/
def spLaw (K : PySem.W.Frag) : Sp := fun vs H Q _ => ∃ (a : Addr) (ns : List Int), vs = [.ref a] ∧ ns.length ≤ 63 ∧ SqL K H a (ns.map V.int) ∧ ∀ H', Q (.bl true) H'
theorem ints_map (js : List Int) : intsOf (js.map .int) = some js := by
  induction js with
  | nil => rfl
  | cons j js ih =>
    show (intsOf (js.map .int)).map (j :: ·) = _
    rw [ih]
    rfl
section
variable {p : Pr} {P : Program} {w : World} {K : PySem.W.Frag} {mg : Str → Option Value} {base : Heap}
theorem law_ok (ok : PrOk p K mg) {dd d : DD} (hdd : dd ∈ p.ds) (hnm : dd.nm = "_law_draws") (hn1 : dd.n = 1) {pr : Arguments} {bd rest : List Stmt} {sc : Scope} {f : Addr} {fd : FuncData} (F : FunD K "law" "law" pr bd sc [] [] f fd) (S : FnScope d.N (d.N.take d.n) sc) (hdn : d.nm = "law") (hd1 : d.N.take d.n = [("script" : Str)])
    (hr : lawRest (p.ct d sc) bd = some rest) (hck : ckB d.body (p.ct d sc) rest = true) (i : Nat)
    (hd : ∀ is : List Int, is.length ≤ 63 → ∃ js : List Int, callD (p.at i) dd.N.length dd.body [.ilst is] [] = .ok (.lst (js.map .int)) [])
    (hl : ∀ js : List Int, ∃ dr', evB (p.at (i + 1)) d.body (.no :: .val .drw :: List.replicate (d.N.length - 2) .no) js.reverse = .ok (.rt (.bl true)) dr') :
    FnOk P w K mg base (L2N.CX P w) (i + 3) f fd [("script" : Str)] (spLaw K) := by
  obtain ⟨x, y, p1, p2, p3, p4, p5, rfl, n0, v0, v1, v2, n1, l1, g0⟩ := lawRest_inv hr
  have S' : FnScope d.N [("script" : Str)] sc := by rw [← hd1]; exact S
  have ih := all_ok (P := P) (w := w) (base := base) ok (i + 1)
  obtain ⟨fn, e1, fa, fd2, ps, m1, m2, m3, m4⟩ := ih dd hdd
  have e2 : (p.at (i + 1)).fns dd.nm = some (callD (p.at i) dd.N.length dd.body) := by
    show (p.find dd.nm).map _ = _
    rw [ok.uniq dd hdd]
    rfl
  rw [e2] at e1
  cases e1
  rw [hnm] at m1
  refine F.ok S' (fun vs H Q E h => ?_) fun cdv A outer s H vs Q E hroom h => ?_
  · obtain ⟨a, ns, rfl, _⟩ := h
    rfl
  · obtain ⟨a, ns, rfl, hl63, hS, hQ⟩ := h
    rw [hn1] at m4
    have hroom' : Room (i + 1 + 1) (A.deeper (envOfC d.nm sc s.heap.objs.size f cdv)) := by rw [hdn]; exact hroom
    have hroom2 : Room (i + 1 + 1) (A.deeper (envOfC "law" sc s.heap.objs.size f cdv)) := hroom
    have xs : ∀ (ad : Option Addr) (F0 H0 : Hp), XS (cxOf (L2N.CX P w) P w K mg base d.N "law" sc f cdv A outer s H E) ad ⟨F0, H0, fun cls dd _ H => E cls dd H⟩ (p.at (i + 1)) (i + 1 + 1) (p.ct d sc) := fun ad F0 H0 => by
      have := xs_of (P := P) (w := w) (base := base) (outer := outer) (E := E) (ad := ad) (F := F0) (H0 := H0) (H := H) (f := f) (cdv := cdv) (A := A) (s := s) ok S ih (by rw [hdn]; exact hroom2)
      rw [hdn] at this
      exact this
    have xf := (xs none H H).toXF
    obtain ⟨g1, g2, _⟩ := gl_of xf g0
    have hv : PE (cxOf (L2N.CX P w) P w K mg base d.N "law" sc f cdv A outer s H E) (.Name x p3) (tVar 0) := pe_var n0 (vis_of v0) v1 v2
    have hcall := pe_callS (pos := p4) (E := WE (fun cls dd _ H => E cls dd H)) (p := p2) m4 xf.room g1 m1 m2 m3 xf.tk (pa_cons hv pa_nil rfl) g2 rfl rfl
    have hset := ps_set (pos := p5) (pos' := p1) S.nd n1 (loc_of l1) hcall rfl (.inl rfl)
    have hrest : PSs (cxOf (L2N.CX P w) P w K mg base d.N "law" sc f cdv A outer s H E) rest (fun D σ H1 => ∃ (ad : Option Addr) (F0 H0 : Hp), tS (gd (cxOf (L2N.CX P w) P w K mg base d.N "law" sc f cdv A outer s H E) ad) ⟨F0, H0, fun cls dd _ H => E cls dd H⟩ (evB (p.at (i + 1)) d.body) D σ H1) :=
      ⟨fun pins s σ H D I ⟨ad, F0, H0, q⟩ => (ckB_snd d.body _ rest hck (xs ad F0 H0)).run pins s σ H D I q⟩
    refine ⟨_, pss_cons hset hrest, ?_⟩
    obtain ⟨js, hjs⟩ := hd ns hl63
    obtain ⟨dr', hev⟩ := hl js
    have hlen : ns.length ≤ sizeLine := by rw [sizeLine_eq]; omega
    have hN : 2 ≤ d.N.length := by
      have := (List.getElem?_eq_some_iff.mp n1).1
      exact this
    refine ⟨.ref a, ?_, rfl, none, H, [.ilst ns], [], Same.refl _, (fun _ z => nomatch z), (fun _ z => nomatch z), Reps.cons ⟨hlen, a, rfl, hS⟩ Reps.nil, ?_⟩
    · show (start d.N [.ref a])[0]? = _
      rfl
    · rw [hjs]
      show ∀ v H' F', _ → _ → _
      intro v H' F' po rv
      obtain ⟨lj, q, vs, rfl, hq, t⟩ := rv
      rw [t.ints (ints_map js)] at hq
      have hq2 := po.s _ _ hq
      refine ⟨some q, fun _ => none, H', .no :: .val .drw :: List.replicate (d.N.length - 2) .no, fun _ => none, js.reverse, ⟨Post.refl (fun _ _ z => nomatch z) (fun _ _ => rfl) (fun c hc => by cases hc; rw [List.reverse_reverse]; exact hq2), ?_, fun i => ?_, fun i j d9 e p h1 => ?_⟩, ?_⟩
      · show ((L2.start d.N [.ref a]).set 1 _).length = _
        unfold L2.start
        simp
        omega
      · match i with
        | 0 => trivial
        | 1 =>
          show ∃ v, ((L2.start d.N [.ref a]).set 1 (some (.ref q)))[1]? = some (some v) ∧ _
          refine ⟨.ref q, ?_, q, rfl, rfl⟩
          rw [List.getElem?_set_self]
          unfold L2.start
          simp
          omega
        | i + 2 =>
          have : get (.no :: .val .drw :: List.replicate (d.N.length - 2) .no) (i + 2) = .no := by
            show (List.replicate (d.N.length - 2) Sl.no).getD i .no = .no
            rw [List.getD_eq_getElem?_getD, List.getElem?_replicate]
            split <;> rfl
          rw [this]
          trivial
      · match i, h1 with
        | 0, h1 => cases h1
        | 1, h1 => cases h1
        | i + 2, h1 =>
          have : get (.no :: .val .drw :: List.replicate (d.N.length - 2) .no) (i + 2) = .no := by
            show (List.replicate _ Sl.no).getD i .no = .no
            rw [List.getD_eq_getElem?_getD, List.getElem?_replicate]
            split <;> rfl
          rw [this] at h1
          cases h1
      · rw [hev]
        intro v H2 F2 _ r2
        cases (show v = .bl true from r2)
        exact hQ H2
/-- nothing leaves the law's def -/
theorem law_ok0 {k : Nat} {f : Addr} {fd : FuncData} {ps : List Str} (F : FnOk P w K mg base (L2N.CX P w) k f fd ps (spLaw K)) : FnOk P w K mg base L2.CX0 k f fd ps (spLaw K) := by
  refine ⟨F.len, fun A outer s H args us vs Q E hr e0 hb hv h => ?_⟩
  refine codeAny_mono (F.run A outer s H args us vs Q (fun _ _ _ => False) hr e0 hb hv h) fun r s' hq => ?_
  cases r with
  | error e =>
    obtain ⟨_, _, _, _, _, _, _, _, _, _, _, _, z⟩ := (show L2N.CX P w outer H s (fun _ _ _ => False) e s' from hq)
    exact z.elim
  | ok fl => cases fl <;> exact hq
end
end Cr
/-! From the head's facts to the program's. -/
namespace Cr
open PySem PySem.Spec PyProof.Rows L2 L2H

/-- a row of the program's table: its text held against the def's -/
structure RowOk (p : Pr) (dd : DD) (df : He.DefD) : Prop where
  at_ : df.at_ = (dd.nm, none)
  nm : df.name = dd.nm
  qn : df.qual = dd.nm
  d0 : df.dfl = []
  k0 : df.kwd = []
  sc : FnScope dd.N (dd.N.take dd.n) df.scope
  bi : ∀ (kV doc pm : Value) (an : Option Addr) (cdv ct : Value) (us : List Value), us.length = (dd.N.take dd.n).length → bindArgs (PySem.W.fnOf dd.nm dd.nm df.params df.body df.scope .none kV doc pm an cdv ct) ⟨us, []⟩ = pure ((dd.N.take dd.n).zip us)
  ck : ckB dd.body (p.ct dd df.scope) df.body = true
  le : dd.n ≤ dd.N.length
/-- a def of flags -/
structure FlgOk (q : Str × Str × List Str) (df : He.DefD) : Prop where
  at_ : df.at_ = (q.1, none)
  nm : df.name = q.1
  qn : df.qual = q.1
  d0 : df.dfl = []
  k0 : df.kwd = []
  sc : FnScope [q.2.1] [q.2.1] df.scope
  bi : ∀ (kV doc pm : Value) (an : Option Addr) (cdv ct : Value) (us : List Value), us.length = [q.2.1].length → bindArgs (PySem.W.fnOf q.1 q.1 df.params df.body df.scope .none kV doc pm an cdv ct) ⟨us, []⟩ = pure ([q.2.1].zip us)
  fl : flBody q.2.1 df.body = some q.2.2
  g1 : df.scope.names.lookup ("isinstance" : Str) = some .globalImplicit
  g2 : q.2.2.all (fun c => decide (df.scope.names.lookup c = some .globalImplicit) && !(c == ("__debug__" : Str))) = true
  g3 : (visB df.scope q.2.1 && !(q.2.1 == ("__debug__" : Str)) && !(q.2.1 == ("__classdict__" : Str)) && decide (q.2.2.length ≤ 1000)) = true
def faCon (q : Str × D) : He.Fa := match q.2 with
  | .int i => .int q.1 i
  | .str s => .str q.1 s
  | _ => .glo q.1
def conB (q : Str × D) : Bool := match q.2 with
  | .int _ => true
  | .str _ => true
  | _ => false
/-- the facts that the head is asked for -/
def faOf (p : Pr) : List He.Fa := p.ds.map (fun d => .glo d.nm) ++ (p.flg.map (fun q => .glo q.1) ++ (p.bl.map .free ++ (p.cons.map faCon ++ (p.exc.map .glo ++ (p.exc.map .exc ++ (p.tcl.map .glo ++ (p.err.map .glo ++ ((p.flg.flatMap fun q => q.2.2.map .glo) ++
  (p.err.flatMap fun e => p.tcl.map fun x => .exm e x (p.isub e x))))))))))
/-- what else the head is asked for: how the own errors answer isinstance -/
def exB (p : Pr) (K : PySem.W.Frag) : Bool := p.err.all fun e => decide (PySem.W.findIn K (.ref (He.ga K e)) "__getattribute__" = some (some (.builtin "BaseException.__getattribute__"))) && decide (PySem.W.findIn K (.ref (He.ga K e)) "__getattr__" = some none) &&
  decide (PySem.W.subIn K (.ref (He.ga K e)) (.type "BaseException") = some true) && PySem.W.hasDictIn K (He.ga K e) && decide (PySem.W.findIn K (.ref (He.ga K e)) "__class__" = some (some (.builtin "object.__class__"))) && decide (PySem.W.specialIn K (.builtin "object.__class__") "__get__" = some (some (.builtin "getset_descriptor.__get__"))) &&
  decide (PySem.W.takesIn K (.builtin "object.__class__") = some true) && decide (PySem.W.mroIn K (He.ga K e) (.type "object") = some true) && p.flg.all fun q => q.2.2.all fun c => decide (PySem.W.kitOne K (.ref (He.ga K e)) (.ref (He.ga K c)) = some (p.isub e c))
theorem find_nd : ∀ {ds : List DD} {d : DD}, (ds.map (·.nm)).Nodup → d ∈ ds → ds.find? (fun e => e.nm == d.nm) = some d
  | e :: ds, d, hn, hd => by
    rw [List.map_cons, List.nodup_cons] at hn
    rw [List.find?_cons]
    rcases List.mem_cons.mp hd with rfl | hd
    · simp
    · have hne : (e.nm == d.nm) = false := by
        cases q : e.nm == d.nm with
        | false => rfl
        | true => exact absurd (List.mem_map.mpr ⟨d, hd, (by simpa using q : e.nm = d.nm).symm⟩) hn.1
      rw [hne]
      exact find_nd hn.2 hd
theorem prOk_of {p : Pr} {K : PySem.W.Frag} {h : Heap} {mg : Str → Option Value} (X : K.In h) (G : h.Ns mainGlobals mg) (fact : ∀ f ∈ faOf p, f.ok K = true) (ex : exB p K = true)
    (rows : ∀ d ∈ p.ds, ∃ df : He.DefD, RowOk p d df ∧ ∃ fd, FunD K df.name df.qual df.params df.body df.scope (df.dvs K) (df.kws K) (He.fAd K df.at_) fd)
    (flgs : ∀ q ∈ p.flg, ∃ df : He.DefD, FlgOk q df ∧ ∃ fd, FunD K df.name df.qual df.params df.body df.scope (df.dvs K) (df.kws K) (He.fAd K df.at_) fd)
    (nd : (p.ds.map (·.nm)).Nodup) (cn : p.cons.all conB = true) (isi : p.flg = [] ∨ p.bl.contains "isinstance" = true) : PrOk p K mg := by
  have glo : ∀ x : Str, He.Fa.glo x ∈ faOf p → mg x = some (.ref (He.ga K x)) := fun x hx => He.glo_ok X G (fact _ hx)
  have fre : ∀ x ∈ p.bl, mg x = none := fun x hx => He.free_ok X G (fact (.free x) (by
    unfold faOf
    simp only [List.mem_append, List.mem_map]
    exact .inr (.inr (.inl ⟨x, hx, rfl⟩))))
  have exs := List.all_eq_true.mp ex
  refine ⟨fun d hd => ?_, fun d hd => find_nd nd hd, fre, fun x dd hx => ?_, fun x hx => ?_, fun x hx => ?_, fun e he => ?_, fun q hq => ?_⟩
  · obtain ⟨df, R, fd, F⟩ := rows d hd
    have e1 : He.DefD.dvs K df = [] := by unfold He.DefD.dvs; rw [R.d0]; rfl
    have e2 : He.DefD.kws K df = [] := by unfold He.DefD.kws; rw [R.k0]; rfl
    rw [R.nm, R.qn, e1, e2, R.at_] at F
    refine ⟨_, fd, _, _, _, F, glo d.nm ?_, R.sc, F.bindsN R.bi, R.ck, R.le⟩
    unfold faOf
    simp only [List.mem_append, List.mem_map]
    exact .inl ⟨d, hd, rfl⟩
  · have hm := PySem.mem_of_lookup hx
    have hc := List.all_eq_true.mp cn _ hm
    have hf : faCon (x, dd) ∈ faOf p := by
      unfold faOf
      simp only [List.mem_append, List.mem_map]
      exact .inr (.inr (.inr (.inl ⟨_, hm, rfl⟩)))
    cases dd with
    | int i =>
      obtain ⟨t, e⟩ := He.int_ok X G (fact (.int x i) hf)
      exact ⟨.int i, _, e, ⟨t, rfl⟩, rfl⟩
    | str z =>
      obtain ⟨t, e⟩ := He.str_ok X G (fact (.str x z) hf)
      exact ⟨.str z, _, e, ⟨t, rfl⟩, rfl⟩
    | _ => cases hc
  · obtain ⟨c1, c2, c3, c4⟩ := He.exc_ok (fact (.exc x) (by
      unfold faOf
      simp only [List.mem_append, List.mem_map]
      exact .inr (.inr (.inr (.inr (.inr (.inl ⟨x, hx, rfl⟩)))))))
    refine ⟨He.ga K x, _, _, _, _, F.excBase_ValueError, c1, glo x ?_, c2, c3, c4⟩
    unfold faOf
    simp only [List.mem_append, List.mem_map]
    exact .inr (.inr (.inr (.inr (.inl ⟨x, hx, rfl⟩))))
  · refine ⟨_, glo x ?_, fun e he cls hcl => ?_⟩
    · unfold faOf
      simp only [List.mem_append, List.mem_map]
      exact .inr (.inr (.inr (.inr (.inr (.inr (.inl ⟨x, hx, rfl⟩))))))
    · have e1 := glo e (by
        unfold faOf
        simp only [List.mem_append, List.mem_map]
        exact .inr (.inr (.inr (.inr (.inr (.inr (.inr (.inl ⟨e, he, rfl⟩))))))))
      rw [e1] at hcl
      cases hcl
      exact He.exm_ok (fact (.exm e x (p.isub e x)) (by
        unfold faOf
        simp only [List.mem_append, List.mem_map, List.mem_flatMap]
        exact .inr (.inr (.inr (.inr (.inr (.inr (.inr (.inr (.inr ⟨e, he, x, hx, rfl⟩))))))))))
  · have ee := exs e he
    simp only [Bool.and_eq_true, decide_eq_true_eq, List.all_eq_true] at ee
    obtain ⟨⟨⟨⟨⟨⟨⟨⟨h1, h2⟩, h3⟩, h4⟩, h5⟩, h6⟩, h7⟩, h8⟩, h9⟩ := ee
    refine ⟨_, glo e ?_, ⟨h1, h2, h3, h4, h5, h6, h7, h8⟩, fun q hq c hc => ⟨_, glo c ?_, h9 q hq c hc⟩⟩
    · unfold faOf
      simp only [List.mem_append, List.mem_map]
      exact .inr (.inr (.inr (.inr (.inr (.inr (.inr (.inl ⟨e, he, rfl⟩)))))))
    · unfold faOf
      simp only [List.mem_append, List.mem_map, List.mem_flatMap]
      exact .inr (.inr (.inr (.inr (.inr (.inr (.inr (.inr (.inl ⟨q, hq, c, hc, rfl⟩))))))))
  · obtain ⟨df, R, fd, F⟩ := flgs q hq
    have e1 : He.DefD.dvs K df = [] := by unfold He.DefD.dvs; rw [R.d0]; rfl
    have e2 : He.DefD.kws K df = [] := by unfold He.DefD.kws; rw [R.k0]; rfl
    rw [R.nm, R.qn, e1, e2, R.at_] at F
    have g2 := List.all_eq_true.mp R.g2
    have g3 := R.g3
    simp only [Bool.and_eq_true, decide_eq_true_eq, Bool.not_eq_true'] at g3
    refine ⟨_, fd, _, _, _, F, glo q.1 ?_, R.sc, F.bindsN R.bi, R.fl, R.g1, fun c hc => ?_, ⟨g3.1.1.1, g3.1.1.2, g3.1.2⟩, ?_, ?_⟩
    · unfold faOf
      simp only [List.mem_append, List.mem_map]
      exact .inr (.inl ⟨q, hq, rfl⟩)
    · have := g2 c hc
      simp only [Bool.and_eq_true, decide_eq_true_eq, Bool.not_eq_true'] at this
      exact this
    · rcases isi with h | h
      · rw [h] at hq
        cases hq
      · exact fre _ (mem_of h)
    · have := g3.2
      rw [sizeLine_eq]
      omega
end Cr
/-! The evaluator with continuations: what a text comes to, as plain Lean. -/
namespace Cr
open PySem

abbrev M (α : Type) := List Int → Res α
section
variable {α β γ ρ : Type}
def bnd (m : M α) (f : α → M β) : M β := fun dr => (m dr).bind f
def ret (a : α) : M α := fun dr => .ok a dr
def bad : M α := fun _ => .bad
def thr (e : Ex) : M α := fun dr => .exc e dr
def sel (b : Bool) (x y : M α) : M α := fun dr => match b with
  | true => x dr
  | false => y dr
def kO (o : Option α) (k : α → M ρ) : M ρ := match o with
  | some a => k a
  | none => bad
theorem kO_some (a : α) (k : α → M ρ) : kO (some a) k = k a := Eq.trans rfl rfl
theorem kO_none (k : α → M ρ) : kO none k = bad := Eq.trans rfl rfl
theorem sel_t (x y : M α) : sel true x y = x := Eq.trans rfl rfl
theorem sel_f (x y : M α) : sel false x y = y := Eq.trans rfl rfl
theorem bnd_ret (a : α) (f : α → M β) : bnd (ret a) f = f a := Eq.trans rfl rfl
theorem bnd_thr (e : Ex) (f : α → M β) : bnd (thr e) f = thr e := Eq.trans rfl rfl
theorem bnd_bad (f : α → M β) : bnd bad f = bad := Eq.trans rfl rfl
theorem ret_bnd (m : M α) : bnd m ret = m := by
  funext dr
  show (m dr).bind _ = m dr
  cases m dr <;> rfl
theorem bnd_bnd (m : M α) (f : α → M β) (g : β → M γ) : bnd (bnd m f) g = bnd m fun x => bnd (f x) g := by
  funext dr
  show ((m dr).bind f).bind g = (m dr).bind _
  cases m dr <;> rfl
theorem bnd_sel (b : Bool) (x y : M α) (f : α → M β) : bnd (sel b x y) f = sel b (bnd x f) (bnd y f) := by cases b <;> rfl
theorem bnd_kO (o : Option α) (k : α → M β) (f : β → M γ) : bnd (kO o k) f = kO o fun a => bnd (k a) f := by cases o <;> rfl
theorem kO_bind (o : Option α) (f : α → Option β) (k : β → M ρ) : kO (o.bind f) k = kO o fun a => kO (f a) k := by cases o <;> rfl
theorem kO_map (o : Option α) (f : α → β) (k : β → M ρ) : kO (o.map f) k = kO o fun a => k (f a) := by cases o <;> rfl
/-- an option is a step -/
theorem op_bnd (o : Option α) (k : α → M ρ) : bnd (fun dr => ofO o dr) k = kO o k := by cases o <;> rfl
theorem bnd_ext {m m' : M α} {f f' : α → M β} (h : m = m') (h2 : ∀ x, f x = f' x) : bnd m f = bnd m' f' := by
  subst h
  exact congrArg _ (funext h2)
theorem sel_ext (b : Bool) {x x' y y' : M α} (h : x = x') (h2 : y = y') : sel b x y = sel b x' y' := by rw [h, h2]
theorem kO_ext {o o' : Option α} {f f' : α → M β} (h : o = o') (h2 : ∀ x, f x = f' x) : kO o f = kO o' f' := by
  subst h
  exact congrArg _ (funext h2)
end
/-! ### rows and pairs taken apart -/
def unD : D → Option (List D)
  | .tup ds => some ds
  | .lst ds => some ds
  | _ => none
def unC {ρ : Type} (ds : List D) (k : D → List D → M ρ) : M ρ := match ds with
  | d :: ds => k d ds
  | [] => bad
def unN {ρ : Type} (ds : List D) (k : M ρ) : M ρ := match ds with
  | [] => k
  | _ :: _ => bad
theorem unC_cons {ρ : Type} (d : D) (ds : List D) (k : D → List D → M ρ) : unC (d :: ds) k = k d ds := Eq.trans rfl rfl
theorem unN_nil {ρ : Type} (k : M ρ) : unN [] k = k := Eq.trans rfl rfl
def snocL (ds : List D) (d : D) : Option D := grd (decide (ds.length < sizeLine)) (.lst (ds ++ [d]))
def mkT (ds : List D) : Option D := grd (szOk ds.length) (.tup ds)
def mkL (ds : List D) : Option D := grd (szOk ds.length) (.lst ds)
def asI : D → Option Int
  | .int i => some i
  | _ => none
def negD : D → Option D
  | .int i => some (.int (-i))
  | _ => none
def notD : D → Option D
  | .bl b => some (.bl (!b))
  | _ => none
def blD : D → Option Bool
  | .bl b => some b
  | _ => none
def lrevD : D → Option D
  | .lst ds => some (.lst ds.reverse)
  | _ => none
def callF (G : Cfg) (f : Str) (ds : List D) : M D := match G.fns f with
  | some g => g ds
  | none => bad
def callV (q : (List D → M D) × Nat) (ds : List D) : M D := if ds.length = q.2 then q.1 ds else bad
def lcM (b : D → M (Option D)) (xs : List D) : M D := fun dr => noX ((lcL b xs dr).bind fun ys dr => .ok (.lst ys) dr)
def lcM2 (b : D → M (List D)) (xs : List D) : M D := fun dr => noX ((lcL2 b xs dr).bind fun ys dr => ofO (grd (szOk ys.length) (.lst ys)) dr)
def lcI (b : D → M (Option D)) (xs : List D) : M (List D) := fun dr => lcL b xs dr
def dcM (t : Bool) (b : D → M (Option (D × D))) (xs : List D) : M D := fun dr => noX ((dcL b xs dr).bind fun ys dr => ofO (grd (decide (ys.length < sizeLine)) ys >>= dicP t) dr)
/-! ### patterns -/
mutual
def kP {ρ : Type} : Pat → D → Env → (Env → M ρ) → M ρ
  | .nm i, d, env, k => kO (if i < env.length then some (env.set i (.val d)) else none) k
  | .tp ps, d, env, k => kO (unD d) fun ds => kPs ps ds env k
  | .nil, d, env, k => kO (asgP .nil d env) k
  | .cons p ps, d, env, k => kO (asgP (.cons p ps) d env) k
def kPs {ρ : Type} : Pat → List D → Env → (Env → M ρ) → M ρ
  | .nil, ds, env, k => unN ds (k env)
  | .cons p ps, ds, env, k => unC ds fun d ds => kP p d env fun env => kPs ps ds env k
  | .nm i, ds, env, k => kO (asgP (.nm i) (.lst ds) env) k
  | .tp ps, ds, env, k => kO (asgP (.tp ps) (.lst ds) env) k
end
mutual
theorem kP_eq {ρ : Type} : ∀ (p : Pat) (d : D) (env : Env) (k : Env → M ρ), kP p d env k = kO (asgP p d env) k
  | .nm i, d, env, k => Eq.trans rfl rfl
  | .nil, d, env, k => Eq.trans rfl rfl
  | .cons p ps, d, env, k => Eq.trans rfl rfl
  | .tp ps, d, env, k => by
    cases d with
    | tup ds => exact kPs_eq ps ds env k
    | lst ds => exact kPs_eq ps ds env k
    | _ => rfl
theorem kPs_eq {ρ : Type} : ∀ (p : Pat) (ds : List D) (env : Env) (k : Env → M ρ), kPs p ds env k = kO (asgP p (.lst ds) env) k
  | .nm i, d, env, k => Eq.trans rfl rfl
  | .tp i, d, env, k => Eq.trans rfl rfl
  | .nil, ds, env, k => by cases ds <;> rfl
  | .cons p ps, ds, env, k => by
    cases ds with
    | nil => rfl
    | cons d ds =>
      show kP p d env (fun env => kPs ps ds env k) = kO ((asgP p d env).bind fun env => asgP ps (.lst ds) env) k
      rw [kP_eq p d env, kO_bind]
      congr 1
      funext env
      exact kPs_eq ps ds env k
end
/-! ### expressions -/
mutual
def kE (G : Cfg) : CE → Bool → Env → {ρ : Type} → (D → M ρ) → M ρ
  | .var i, pk, env, _, k => kO (if pk then varP (get env i) else varS (get env i)) k
  | .non, _, _, _, k => k .non
  | .bl b, _, _, _, k => k (.bl b)
  | .int i, _, _, _, k => k (.int i)
  | .str s, _, _, _, k => k (.str s)
  | .glo x, _, _, _, k => kO (G.cons x) k
  | .fnv x, _, _, _, k => k (.fn x)
  | .bin o a b, _, env, _, k => kE G a true env fun x => kE G b true env fun y => kO (binD o x y) k
  | .neg a, _, env, _, k => kE G a true env fun x => kO (negD x) k
  | .cmp o a b, _, env, _, k => kE G a true env fun x => kE G b true env fun y => kO (cmpD o x y) fun t => k (.bl t)
  | .cmp2 o1 o2 a b c, _, env, _, k => kE G a true env fun x => kE G b true env fun y => kO (cmpD o1 x y) fun t => bnd (sel t (kE G c true env fun z => kO (cmpD o2 y z) ret) (ret false)) fun t => k (.bl t)
  | .isN a, _, env, _, k => kE G a true env fun x => k (.bl (isNone x))
  | .notN a, _, env, _, k => kE G a true env fun x => k (.bl (!isNone x))
  | .and es, _, env, _, k => kAnd G es env k
  | .or es, _, env, _, k => kOr G es env k
  | .not a, _, env, _, k => kE G a true env fun x => kO (notD x) k
  | .ife c a b, _, env, _, k => kC G c env fun t => bnd (sel t (kE G a false env ret) (kE G b false env ret)) k
  | .tup es, _, env, _, k => kL G es env fun ds => kO (mkT ds) k
  | .lst es, _, env, _, k => kL G es env fun ds => kO (mkL ds) k
  | .dicE t, _, _, _, k => k (if t then .dicT [] [] else .dicK [] [])
  | .call f es, _, env, _, k => kL G es env fun ds => bnd (callF G f ds) k
  | .callv f es, _, env, _, k => kE G f true env fun x => kO (fnOf G x) fun q => kL G es env fun ds => bnd (callV q ds) k
  | .blt f es, _, env, _, k => kLp G es env fun ds => kO (bltD f ds) k
  | .isi a t, _, env, _, k => kE G a true env fun x => kO (isiD t x) fun t => k (.bl t)
  | .meth m o es, _, env, _, k => kE G o true env fun x => kO (rcv m x) fun x => kL G es env fun ds => kO (methD m x ds) k
  | .ix a i, _, env, _, k => kE G a true env fun x => kE G i true env fun y => kO (ixD x y) k
  | .sl a lo hi, _, env, _, k => kE G a true env fun x => kQ G lo env fun l => kQ G hi env fun h => kO (slD x l h) k
  | .rev a, _, env, _, k => kE G a true env fun x => kO (revD x) k
  | .lrev a, _, env, _, k => kE G a true env fun x => kO (lrevD x) k
  | .lc p it t e, _, env, _, k => kI G it true env fun xs => bnd (lcM (fun d => kP p d (wipeE env (slots p)) fun env => kTs G t env fun q => sel q (kE G e false env fun y => ret (some y)) (ret none)) xs) k
  | .lc2 p it t p2 it2 t2 e, _, env, _, k => kI G it true env fun xs => bnd (lcM2 (fun d => kP p d (wipeE env (slots p ++ slots p2)) fun env => kTs G t env fun q => sel q (kI G it2 true env fun ys => lcI (fun d => kP p2 d (wipeE env (slots p2)) fun env => kTs G t2 env fun q => sel q (kE G e false env fun y => ret (some y)) (ret none)) ys) (ret [])) xs) k
  | .dc t p it c key e, _, env, _, k => kI G it true env fun xs => bnd (dcM t (fun d => kP p d (wipeE env (slots p)) fun env => kTs G c env fun q => sel q (kE G key true env fun x => kE G e false env fun y => ret (some (x, y))) (ret none)) xs) k
  | .sset a, _, env, _, k => kE G a true env fun x => kO (match x with
    | .lst ds => (nubD ds).bind fun es => (sortD es).map .lst
    | .tup ds => (nubD ds).bind fun es => (sortD es).map .lst
    | _ => none) k
  | .lset a, _, env, _, k => kE G a true env fun x => kO (match x with
    | .lst ds => (nubD ds).map fun es => .int es.length
    | .tup ds => (nubD ds).map fun es => .int es.length
    | _ => none) k
  | c, pk, env, _, k => bnd (evE G c pk env) k
def kC (G : Cfg) : CE → Env → {ρ : Type} → (Bool → M ρ) → M ρ
  | .not a, env, _, k => kC G a env fun b => k (!b)
  | .and es, env, _, k => kTand G es env k
  | .or es, env, _, k => kTor G es env k
  | .cmp o a b, env, _, k => kE G a true env fun x => kE G b true env fun y => kO (cmpD o x y) k
  | .cmp2 o1 o2 a b c, env, _, k => kE G a true env fun x => kE G b true env fun y => kO (cmpD o1 x y) fun t => bnd (sel t (kE G c true env fun z => kO (cmpD o2 y z) ret) (ret false)) k
  | .isN a, env, _, k => kE G a true env fun x => k (isNone x)
  | .notN a, env, _, k => kE G a true env fun x => k (!isNone x)
  | .call f es, env, _, k => kL G es env fun ds => bnd (callF G f ds) fun x => kO x.tru k
  | .blt f es, env, _, k => kLp G es env fun ds => kO (bltD f ds) fun x => kO x.tru k
  | .isi a t, env, _, k => kE G a true env fun x => kO (isiD t x) k
  | .var i, env, _, k => kO (varP (get env i)) fun x => kO x.tru k
  | .ix a i, env, _, k => kE G a true env fun x => kE G i true env fun y => kO (ixD x y) fun x => kO x.tru k
  | c, env, _, k => bnd (evT G c env) k
def kTs (G : Cfg) : CE → Env → {ρ : Type} → (Bool → M ρ) → M ρ
  | .nil, _, _, k => k true
  | .cons c .nil, env, _, k => kC G c env k
  | c, env, _, k => bnd (evTs G c env) k
def kTand (G : Cfg) : CE → Env → {ρ : Type} → (Bool → M ρ) → M ρ
  | .cons c .nil, env, _, k => kC G c env k
  | .cons c cs, env, _, k => kC G c env fun b => bnd (sel b (kTand G cs env ret) (ret false)) k
  | c, env, _, k => bnd (evTand G c env) k
def kTor (G : Cfg) : CE → Env → {ρ : Type} → (Bool → M ρ) → M ρ
  | .cons c .nil, env, _, k => kC G c env k
  | .cons c cs, env, _, k => kC G c env fun b => bnd (sel b (ret true) (kTor G cs env ret)) k
  | c, env, _, k => bnd (evTor G c env) k
def kAnd (G : Cfg) : CE → Env → {ρ : Type} → (D → M ρ) → M ρ
  | .cons c .nil, env, _, k => kE G c false env k
  | .cons c cs, env, _, k => kE G c true env fun x => kO (blD x) fun b => bnd (sel b (kAnd G cs env ret) (ret (.bl false))) k
  | c, env, _, k => bnd (evAnd G c env) k
def kOr (G : Cfg) : CE → Env → {ρ : Type} → (D → M ρ) → M ρ
  | .cons c .nil, env, _, k => kE G c false env k
  | .cons c cs, env, _, k => kE G c true env fun x => kO (blD x) fun b => bnd (sel b (ret (.bl true)) (kOr G cs env ret)) k
  | c, env, _, k => bnd (evOr G c env) k
def kL (G : Cfg) : CE → Env → {ρ : Type} → (List D → M ρ) → M ρ
  | .nil, _, _, k => k []
  | .cons e es, env, _, k => kE G e false env fun d => kL G es env fun ds => k (d :: ds)
  | .scons e es, env, _, k => kE G e true env fun d => kO (seqD d) fun xs => kL G es env fun ds => k (xs ++ ds)
  | c, env, _, k => bnd (evL G c env) k
def kLp (G : Cfg) : CE → Env → {ρ : Type} → (List D → M ρ) → M ρ
  | .nil, _, _, k => k []
  | .cons e es, env, _, k => kE G e true env fun d => kLp G es env fun ds => k (d :: ds)
  | c, env, _, k => bnd (evLp G c env) k
def kQ (G : Cfg) : CE → Env → {ρ : Type} → (Option Int → M ρ) → M ρ
  | .nil, _, _, k => k none
  | .cons e .nil, env, _, k => kE G e true env fun d => kO (asI d) fun i => k (some i)
  | c, env, _, k => bnd (evO G c env) k
def kI (G : Cfg) : CE → Bool → Env → {ρ : Type} → (List D → M ρ) → M ρ
  | .rng es, _, env, _, k => kLp G es env fun ds => kO (rngD ds) k
  | .enum a, pk, env, _, k => kE G a pk env fun d => kO (iterD d) fun xs => k (enumL 0 xs)
  | .zip a b, pk, env, _, k => kE G a pk env fun d => kE G b pk env fun e => kO (iterD d) fun xs => kO (iterD e) fun ys => k (zipL xs ys)
  | .items a, _, env, _, k => kE G a false env fun d => kO (itemsD d) k
  | .vals a, _, env, _, k => kE G a false env fun d => kO (valsD d) k
  | .keys a, _, env, _, k => kE G a false env fun d => kO (keysD d) k
  | .cons e .nil, pk, env, _, k => kE G e pk env fun d => kO (iterD d) k
  | c, pk, env, _, k => bnd (evI G c pk env) k
end
theorem bnd_rb {α β γ : Type} (m : M α) (f : α → M β) (g : β → M γ) : bnd (fun dr => (m dr).bind f) g = bnd m fun x => bnd (f x) g := bnd_bnd m f g
theorem bnd_mt {α : Type} (t : Bool) (x y : M α) : (fun dr => match t with
    | true => x dr
    | false => y dr) = sel t x y := Eq.trans rfl rfl

def isNilC : CE → Bool
  | .nil => true
  | _ => false
theorem isNilC_eq {c : CE} (h : isNilC c = true) : c = .nil := by cases c <;> first | rfl | cases h
section
variable {G : Cfg} {c cs : CE} {env : Env}
theorem kTand_cons {ρ : Type} {k : Bool → M ρ} (h : isNilC cs = false) : kTand G (.cons c cs) env k = kC G c env fun b => bnd (sel b (kTand G cs env ret) (ret false)) k := by
  cases cs <;> first | (cases h; done) | (rw [kTand]; intro z; cases z)
theorem kTor_cons {ρ : Type} {k : Bool → M ρ} (h : isNilC cs = false) : kTor G (.cons c cs) env k = kC G c env fun b => bnd (sel b (ret true) (kTor G cs env ret)) k := by
  cases cs <;> first | (cases h; done) | (rw [kTor]; intro z; cases z)
theorem kAnd_cons {ρ : Type} {k : D → M ρ} (h : isNilC cs = false) : kAnd G (.cons c cs) env k = kE G c true env fun x => kO (blD x) fun b => bnd (sel b (kAnd G cs env ret) (ret (.bl false))) k := by
  cases cs <;> first | (cases h; done) | (rw [kAnd]; intro z; cases z)
theorem kOr_cons {ρ : Type} {k : D → M ρ} (h : isNilC cs = false) : kOr G (.cons c cs) env k = kE G c true env fun x => kO (blD x) fun b => bnd (sel b (ret (.bl true)) (kOr G cs env ret)) k := by
  cases cs <;> first | (cases h; done) | (rw [kOr]; intro z; cases z)
theorem evTandC (h : isNilC cs = false) : evTand G (.cons c cs) env = fun dr => (evT G c env dr).bind fun b dr => match b with
    | true => evTand G cs env dr
    | false => .ok false dr := by
  cases cs <;> first | (cases h; done) | rfl
theorem evTorC (h : isNilC cs = false) : evTor G (.cons c cs) env = fun dr => (evT G c env dr).bind fun b dr => match b with
    | true => .ok true dr
    | false => evTor G cs env dr := by
  cases cs <;> first | (cases h; done) | rfl
theorem evAndC (h : isNilC cs = false) : evAnd G (.cons c cs) env = fun dr => (evE G c true env dr).bind fun x dr => match x with
    | .bl true => evAnd G cs env dr
    | .bl false => .ok (.bl false) dr
    | _ => .bad := by
  cases cs <;> first | (cases h; done) | rfl
theorem evOrC (h : isNilC cs = false) : evOr G (.cons c cs) env = fun dr => (evE G c true env dr).bind fun x dr => match x with
    | .bl true => .ok (.bl true) dr
    | .bl false => evOr G cs env dr
    | _ => .bad := by
  cases cs <;> first | (cases h; done) | rfl
end
mutual
theorem kE_eq (G : Cfg) : ∀ (c : CE) (pk : Bool) (env : Env) {ρ : Type} (k : D → M ρ), kE G c pk env k = bnd (evE G c pk env) k
  | .var i, pk, env, ρ, k => by
    exact (op_bnd _ _).symm
  | .non, pk, env, ρ, k => Eq.trans rfl rfl
  | .bl _, pk, env, ρ, k => Eq.trans rfl rfl
  | .int _, pk, env, ρ, k => Eq.trans rfl rfl
  | .str _, pk, env, ρ, k => Eq.trans rfl rfl
  | .fnv _, pk, env, ρ, k => Eq.trans rfl rfl
  | .dicE _, pk, env, ρ, k => Eq.trans rfl rfl
  | .glo x, pk, env, ρ, k => by
    exact (op_bnd _ _).symm
  | .bin o a b, pk, env, ρ, k => by
    show _ = bnd (fun dr => (evE G a true env dr).bind fun x dr => (evE G b true env dr).bind fun y dr => ofO (binD o x y) dr) k
    rw [kE, kE_eq G a, bnd_rb]
    refine bnd_ext rfl fun x => ?_
    rw [kE_eq G b, bnd_rb]
    exact bnd_ext rfl fun y => (op_bnd _ _).symm
  | .neg a, pk, env, ρ, k => by
    rw [kE, kE_eq G a]
    refine ((bnd_rb (evE G a true env) _ k).trans (bnd_ext rfl fun x => ?_)).symm
    cases x <;> rfl
  | .not a, pk, env, ρ, k => by
    rw [kE, kE_eq G a]
    refine ((bnd_rb (evE G a true env) _ k).trans (bnd_ext rfl fun x => ?_)).symm
    cases x <;> rfl
  | .rev a, pk, env, ρ, k => by
    rw [kE, kE_eq G a]
    refine ((bnd_rb (evE G a true env) _ k).trans (bnd_ext rfl fun x => ?_)).symm
    exact op_bnd _ _
  | .lrev a, pk, env, ρ, k => by
    rw [kE, kE_eq G a]
    refine ((bnd_rb (evE G a true env) _ k).trans (bnd_ext rfl fun x => ?_)).symm
    cases x <;> rfl
  | .isN a, pk, env, ρ, k => by
    rw [kE, kE_eq G a]
    refine ((bnd_rb (evE G a true env) _ k).trans (bnd_ext rfl fun x => ?_)).symm
    rfl
  | .notN a, pk, env, ρ, k => by
    rw [kE, kE_eq G a]
    refine ((bnd_rb (evE G a true env) _ k).trans (bnd_ext rfl fun x => ?_)).symm
    rfl
  | .sset a, pk, env, ρ, k => by
    rw [kE, kE_eq G a]
    refine ((bnd_rb (evE G a true env) _ k).trans (bnd_ext rfl fun x => ?_)).symm
    exact op_bnd _ _
  | .lset a, pk, env, ρ, k => by
    rw [kE, kE_eq G a]
    refine ((bnd_rb (evE G a true env) _ k).trans (bnd_ext rfl fun x => ?_)).symm
    exact op_bnd _ _
  | .isi a t, pk, env, ρ, k => by
    rw [kE, kE_eq G a]
    refine ((bnd_rb (evE G a true env) _ k).trans (bnd_ext rfl fun x => ?_)).symm
    rw [op_bnd, kO_map]
  | .cmp o a b, pk, env, ρ, k => by
    rw [kE, kE_eq G a]
    refine ((bnd_rb (evE G a true env) _ k).trans (bnd_ext rfl fun x => ?_)).symm
    rw [kE_eq G b]
    refine (bnd_rb (evE G b true env) _ k).trans (bnd_ext rfl fun y => ?_)
    rw [op_bnd, kO_map]
  | .ix a b, pk, env, ρ, k => by
    rw [kE, kE_eq G a]
    refine ((bnd_rb (evE G a true env) _ k).trans (bnd_ext rfl fun x => ?_)).symm
    rw [kE_eq G b]
    exact (bnd_rb (evE G b true env) _ k).trans (bnd_ext rfl fun y => op_bnd _ _)
  | .cmp2 o1 o2 a b c, pk, env, ρ, k => by
    rw [kE, kE_eq G a]
    refine ((bnd_rb (evE G a true env) _ k).trans (bnd_ext rfl fun x => ?_)).symm
    rw [kE_eq G b]
    refine (bnd_rb (evE G b true env) _ k).trans (bnd_ext rfl fun y => ?_)
    refine (bnd_rb (fun dr => ofO (cmpD o1 x y) dr) _ k).trans ?_
    rw [op_bnd]
    refine kO_ext rfl fun t => ?_
    rw [kE_eq G c]
    cases t with
    | false => rfl
    | true =>
      rw [sel_t, bnd_bnd]
      refine (bnd_rb (evE G c true env) _ k).trans (bnd_ext rfl fun z => ?_)
      rw [op_bnd, kO_map, bnd_kO]
      rfl
  | .and es, pk, env, ρ, k => by
    rw [kE]
    exact kAnd_eq G es env k
  | .or es, pk, env, ρ, k => by
    rw [kE]
    exact kOr_eq G es env k
  | .ife c a b, pk, env, ρ, k => by
    rw [kE, kC_eq G c]
    refine ((bnd_rb (evT G c env) _ k).trans (bnd_ext rfl fun t => ?_)).symm
    rw [kE_eq G a, kE_eq G b, ret_bnd, ret_bnd]
    rfl
  | .tup es, pk, env, ρ, k => by
    rw [kE, kL_eq G es]
    exact ((bnd_rb (evL G es env) _ k).trans (bnd_ext rfl fun ds => op_bnd _ _)).symm
  | .lst es, pk, env, ρ, k => by
    rw [kE, kL_eq G es]
    exact ((bnd_rb (evL G es env) _ k).trans (bnd_ext rfl fun ds => op_bnd _ _)).symm
  | .blt f es, pk, env, ρ, k => by
    rw [kE, kLp_eq G es]
    exact ((bnd_rb (evLp G es env) _ k).trans (bnd_ext rfl fun ds => op_bnd _ _)).symm
  | .call f es, pk, env, ρ, k => by
    rw [kE, kL_eq G es]
    refine ((bnd_rb (evL G es env) _ k).trans (bnd_ext rfl fun ds => ?_)).symm
    refine bnd_ext ?_ fun _ => rfl
    unfold callF
    cases G.fns f <;> rfl
  | .callv f es, pk, env, ρ, k => by
    rw [kE, kE_eq G f]
    refine ((bnd_rb (evE G f true env) _ k).trans (bnd_ext rfl fun x => ?_)).symm
    refine (bnd_rb (fun dr => ofO (fnOf G x) dr) _ k).trans ?_
    rw [op_bnd]
    refine kO_ext rfl fun q => ?_
    rw [kL_eq G es]
    refine (bnd_rb (evL G es env) _ k).trans (bnd_ext rfl fun ds => bnd_ext ?_ fun _ => rfl)
    funext dr
    unfold callV
    split <;> rfl
  | .meth m o es, pk, env, ρ, k => by
    rw [kE, kE_eq G o]
    refine ((bnd_rb (evE G o true env) _ k).trans (bnd_ext rfl fun x => ?_)).symm
    refine (bnd_rb (fun dr => ofO (rcv m x) dr) _ k).trans ?_
    rw [op_bnd]
    refine kO_ext rfl fun q => ?_
    rw [kL_eq G es]
    exact (bnd_rb (evL G es env) _ k).trans (bnd_ext rfl fun ds => op_bnd _ _)
  | .sl a lo hi, pk, env, ρ, k => by
    rw [kE, kE_eq G a]
    refine ((bnd_rb (evE G a true env) _ k).trans (bnd_ext rfl fun x => ?_)).symm
    rw [kQ_eq G lo]
    refine (bnd_rb (evO G lo env) _ k).trans (bnd_ext rfl fun l => ?_)
    rw [kQ_eq G hi]
    exact (bnd_rb (evO G hi env) _ k).trans (bnd_ext rfl fun l => op_bnd _ _)
  | .lc p it t e, pk, env, ρ, k => by
    rw [kE, kI_eq G it]
    refine ((bnd_rb (evI G it true env) _ k).trans (bnd_ext rfl fun xs => bnd_ext ?_ fun _ => rfl)).symm
    show _ = lcM _ xs
    refine congrArg (fun b => lcM b xs) (funext fun d => Eq.symm ?_)
    refine (kP_eq p d (wipeE env (slots p)) _).trans ?_
    refine ((op_bnd _ _).symm.trans (bnd_ext rfl fun env => ?_))
    rw [kTs_eq G t]
    refine bnd_ext rfl fun q => ?_
    rw [kE_eq G e]
    cases q <;> rfl
  | .dc t p it c key e, pk, env, ρ, k => by
    rw [kE, kI_eq G it]
    refine ((bnd_rb (evI G it true env) _ k).trans (bnd_ext rfl fun xs => bnd_ext ?_ fun _ => rfl)).symm
    show _ = dcM t _ xs
    refine congrArg (fun b => dcM t b xs) (funext fun d => Eq.symm ?_)
    refine (kP_eq p d (wipeE env (slots p)) _).trans ?_
    refine ((op_bnd _ _).symm.trans (bnd_ext rfl fun env => ?_))
    rw [kTs_eq G c]
    refine bnd_ext rfl fun q => ?_
    rw [kE_eq G key]
    cases q with
    | false => rfl
    | true =>
      rw [sel_t]
      refine bnd_ext rfl fun x => ?_
      rw [kE_eq G e]
      rfl
  | .lc2 p it t p2 it2 t2 e, pk, env, ρ, k => by
    rw [kE, kI_eq G it]
    refine ((bnd_rb (evI G it true env) _ k).trans (bnd_ext rfl fun xs => bnd_ext ?_ fun _ => rfl)).symm
    show _ = lcM2 _ xs
    refine congrArg (fun b => lcM2 b xs) (funext fun d => Eq.symm ?_)
    refine (kP_eq p d (wipeE env (slots p ++ slots p2)) _).trans ?_
    refine ((op_bnd _ _).symm.trans (bnd_ext rfl fun env => ?_))
    rw [kTs_eq G t]
    refine bnd_ext rfl fun q => ?_
    rw [kI_eq G it2]
    cases q with
    | false => rfl
    | true =>
      rw [sel_t]
      refine bnd_ext rfl fun ys => ?_
      refine congrArg (fun b => lcI b ys) (funext fun d => ?_)
      refine (kP_eq p2 d (wipeE env (slots p2)) _).trans ?_
      refine ((op_bnd _ _).symm.trans (bnd_ext rfl fun env => ?_))
      rw [kTs_eq G t2]
      refine bnd_ext rfl fun q => ?_
      rw [kE_eq G e]
      cases q <;> rfl
  | .nil, pk, env, ρ, k => Eq.trans rfl rfl
  | .cons _ _, pk, env, ρ, k => Eq.trans rfl rfl
  | .scons _ _, pk, env, ρ, k => Eq.trans rfl rfl
  | .rng _, pk, env, ρ, k => Eq.trans rfl rfl
  | .enum _, pk, env, ρ, k => Eq.trans rfl rfl
  | .zip _ _, pk, env, ρ, k => Eq.trans rfl rfl
  | .items _, pk, env, ρ, k => Eq.trans rfl rfl
  | .vals _, pk, env, ρ, k => Eq.trans rfl rfl
  | .rvd _, pk, env, ρ, k => Eq.trans rfl rfl
  | .keys _, pk, env, ρ, k => Eq.trans rfl rfl
  | .dpop _, pk, env, ρ, k => Eq.trans rfl rfl
  | .dlen _, pk, env, ρ, k => Eq.trans rfl rfl
  | .fstr _, pk, env, ρ, k => Eq.trans rfl rfl
  | .cmp3 _ _ _ _ _ _ _, pk, env, ρ, k => Eq.trans rfl rfl
  | .lvals _, pk, env, ρ, k => Eq.trans rfl rfl
  | .litems _, pk, env, ρ, k => Eq.trans rfl rfl
  | .lzip _ _, pk, env, ρ, k => Eq.trans rfl rfl
  | .dsp _ _ _, pk, env, ρ, k => Eq.trans rfl rfl
  | .fmt _, pk, env, ρ, k => Eq.trans rfl rfl
  | .rpr _, pk, env, ρ, k => Eq.trans rfl rfl
  | .dead, pk, env, ρ, k => Eq.trans rfl rfl
theorem kC_eq (G : Cfg) : ∀ (c : CE) (env : Env) {ρ : Type} (k : Bool → M ρ), kC G c env k = bnd (evT G c env) k
  | .not a, env, ρ, k => by
    rw [kC, kC_eq G a]
    refine ((bnd_rb (evT G a env) _ k).trans (bnd_ext rfl fun t => ?_)).symm
    rfl
  | .and es, env, ρ, k => by
    rw [kC]
    exact kTand_eq G es env k
  | .or es, env, ρ, k => by
    rw [kC]
    exact kTor_eq G es env k
  | .cmp o a b, env, ρ, k => by
    rw [kC, kE_eq G a]
    refine ((bnd_rb (evE G a true env) _ k).trans (bnd_ext rfl fun x => ?_)).symm
    rw [kE_eq G b]
    exact (bnd_rb (evE G b true env) _ k).trans (bnd_ext rfl fun y => op_bnd _ _)
  | .cmp2 o1 o2 a b c, env, ρ, k => by
    rw [kC, kE_eq G a]
    refine ((bnd_rb (evE G a true env) _ k).trans (bnd_ext rfl fun x => ?_)).symm
    rw [kE_eq G b]
    refine (bnd_rb (evE G b true env) _ k).trans (bnd_ext rfl fun y => ?_)
    refine (bnd_rb (fun dr => ofO (cmpD o1 x y) dr) _ k).trans ?_
    rw [op_bnd]
    refine kO_ext rfl fun t => ?_
    rw [kE_eq G c]
    cases t with
    | false => rfl
    | true =>
      rw [sel_t, bnd_bnd]
      refine (bnd_rb (evE G c true env) _ k).trans (bnd_ext rfl fun z => ?_)
      rw [op_bnd, bnd_kO]
      rfl
  | .isN a, env, ρ, k => by
    rw [kC, kE_eq G a]
    refine ((bnd_rb (evE G a true env) _ k).trans (bnd_ext rfl fun x => ?_)).symm
    rfl
  | .notN a, env, ρ, k => by
    rw [kC, kE_eq G a]
    refine ((bnd_rb (evE G a true env) _ k).trans (bnd_ext rfl fun x => ?_)).symm
    rfl
  | .isi a t, env, ρ, k => by
    rw [kC, kE_eq G a]
    exact ((bnd_rb (evE G a true env) _ k).trans (bnd_ext rfl fun x => op_bnd _ _)).symm
  | .call f es, env, ρ, k => by
    rw [kC, kL_eq G es]
    refine ((bnd_rb (evL G es env) _ k).trans (bnd_ext rfl fun ds => ?_)).symm
    unfold callF
    cases G.fns f with
    | none => rfl
    | some g => exact (bnd_rb (g ds) _ k).trans (bnd_ext rfl fun x => op_bnd _ _)
  | .blt f es, env, ρ, k => by
    rw [kC, kLp_eq G es]
    refine ((bnd_rb (evLp G es env) _ k).trans (bnd_ext rfl fun ds => ?_)).symm
    refine (bnd_rb (fun dr => ofO (bltD f ds) dr) _ k).trans ?_
    rw [op_bnd]
    exact kO_ext rfl fun x => op_bnd _ _
  | .var i, env, ρ, k => by
    refine ((bnd_rb (fun dr => ofO (varP (get env i)) dr) _ k).trans ?_).symm
    rw [op_bnd]
    exact kO_ext rfl fun x => op_bnd _ _
  | .ix a b, env, ρ, k => by
    rw [kC, kE_eq G a]
    refine ((bnd_rb (evE G a true env) _ k).trans (bnd_ext rfl fun x => ?_)).symm
    rw [kE_eq G b]
    refine (bnd_rb (evE G b true env) _ k).trans (bnd_ext rfl fun y => ?_)
    refine (bnd_rb (fun dr => ofO (ixD x y) dr) _ k).trans ?_
    rw [op_bnd]
    exact kO_ext rfl fun x => op_bnd _ _
  | .non, env, ρ, k => Eq.trans rfl rfl
  | .bl _, env, ρ, k => Eq.trans rfl rfl
  | .int _, env, ρ, k => Eq.trans rfl rfl
  | .str _, env, ρ, k => Eq.trans rfl rfl
  | .glo _, env, ρ, k => Eq.trans rfl rfl
  | .fnv _, env, ρ, k => Eq.trans rfl rfl
  | .nil, env, ρ, k => Eq.trans rfl rfl
  | .cons _ _, env, ρ, k => Eq.trans rfl rfl
  | .scons _ _, env, ρ, k => Eq.trans rfl rfl
  | .bin _ _ _, env, ρ, k => Eq.trans rfl rfl
  | .neg _, env, ρ, k => Eq.trans rfl rfl
  | .ife _ _ _, env, ρ, k => Eq.trans rfl rfl
  | .tup _, env, ρ, k => Eq.trans rfl rfl
  | .lst _, env, ρ, k => Eq.trans rfl rfl
  | .dicE _, env, ρ, k => Eq.trans rfl rfl
  | .callv _ _, env, ρ, k => Eq.trans rfl rfl
  | .meth _ _ _, env, ρ, k => Eq.trans rfl rfl
  | .sl _ _ _, env, ρ, k => Eq.trans rfl rfl
  | .rev _, env, ρ, k => Eq.trans rfl rfl
  | .rng _, env, ρ, k => Eq.trans rfl rfl
  | .enum _, env, ρ, k => Eq.trans rfl rfl
  | .zip _ _, env, ρ, k => Eq.trans rfl rfl
  | .items _, env, ρ, k => Eq.trans rfl rfl
  | .vals _, env, ρ, k => Eq.trans rfl rfl
  | .rvd _, env, ρ, k => Eq.trans rfl rfl
  | .keys _, env, ρ, k => Eq.trans rfl rfl
  | .lc _ _ _ _, env, ρ, k => Eq.trans rfl rfl
  | .lc2 _ _ _ _ _ _ _, env, ρ, k => Eq.trans rfl rfl
  | .dc _ _ _ _ _ _, env, ρ, k => Eq.trans rfl rfl
  | .dpop _, env, ρ, k => Eq.trans rfl rfl
  | .dlen _, env, ρ, k => Eq.trans rfl rfl
  | .fstr _, env, ρ, k => Eq.trans rfl rfl
  | .lrev _, env, ρ, k => Eq.trans rfl rfl
  | .sset _, env, ρ, k => Eq.trans rfl rfl
  | .lset _, env, ρ, k => Eq.trans rfl rfl
  | .cmp3 _ _ _ _ _ _ _, env, ρ, k => Eq.trans rfl rfl
  | .lvals _, env, ρ, k => Eq.trans rfl rfl
  | .litems _, env, ρ, k => Eq.trans rfl rfl
  | .lzip _ _, env, ρ, k => Eq.trans rfl rfl
  | .dsp _ _ _, env, ρ, k => Eq.trans rfl rfl
  | .fmt _, env, ρ, k => Eq.trans rfl rfl
  | .rpr _, env, ρ, k => Eq.trans rfl rfl
  | .dead, env, ρ, k => Eq.trans rfl rfl
theorem kTs_eq (G : Cfg) : ∀ (c : CE) (env : Env) {ρ : Type} (k : Bool → M ρ), kTs G c env k = bnd (evTs G c env) k
  | .cons c cs, env, ρ, k => by
    cases hn : isNilC cs with
    | true =>
      obtain rfl := isNilC_eq hn
      rw [kTs]
      exact kC_eq G c env k
    | false =>
      cases cs <;> first | (cases hn; done) | rfl
  | .var _, env, ρ, k => Eq.trans rfl rfl
  | .non, env, ρ, k => Eq.trans rfl rfl
  | .bl _, env, ρ, k => Eq.trans rfl rfl
  | .int _, env, ρ, k => Eq.trans rfl rfl
  | .str _, env, ρ, k => Eq.trans rfl rfl
  | .glo _, env, ρ, k => Eq.trans rfl rfl
  | .fnv _, env, ρ, k => Eq.trans rfl rfl
  | .nil, env, ρ, k => Eq.trans rfl rfl
  | .scons _ _, env, ρ, k => Eq.trans rfl rfl
  | .bin _ _ _, env, ρ, k => Eq.trans rfl rfl
  | .neg _, env, ρ, k => Eq.trans rfl rfl
  | .cmp _ _ _, env, ρ, k => Eq.trans rfl rfl
  | .cmp2 _ _ _ _ _, env, ρ, k => Eq.trans rfl rfl
  | .isN _, env, ρ, k => Eq.trans rfl rfl
  | .notN _, env, ρ, k => Eq.trans rfl rfl
  | .ife _ _ _, env, ρ, k => Eq.trans rfl rfl
  | .tup _, env, ρ, k => Eq.trans rfl rfl
  | .lst _, env, ρ, k => Eq.trans rfl rfl
  | .dicE _, env, ρ, k => Eq.trans rfl rfl
  | .call _ _, env, ρ, k => Eq.trans rfl rfl
  | .callv _ _, env, ρ, k => Eq.trans rfl rfl
  | .blt _ _, env, ρ, k => Eq.trans rfl rfl
  | .isi _ _, env, ρ, k => Eq.trans rfl rfl
  | .meth _ _ _, env, ρ, k => Eq.trans rfl rfl
  | .ix _ _, env, ρ, k => Eq.trans rfl rfl
  | .sl _ _ _, env, ρ, k => Eq.trans rfl rfl
  | .rev _, env, ρ, k => Eq.trans rfl rfl
  | .rng _, env, ρ, k => Eq.trans rfl rfl
  | .enum _, env, ρ, k => Eq.trans rfl rfl
  | .zip _ _, env, ρ, k => Eq.trans rfl rfl
  | .items _, env, ρ, k => Eq.trans rfl rfl
  | .vals _, env, ρ, k => Eq.trans rfl rfl
  | .rvd _, env, ρ, k => Eq.trans rfl rfl
  | .keys _, env, ρ, k => Eq.trans rfl rfl
  | .lc _ _ _ _, env, ρ, k => Eq.trans rfl rfl
  | .lc2 _ _ _ _ _ _ _, env, ρ, k => Eq.trans rfl rfl
  | .dc _ _ _ _ _ _, env, ρ, k => Eq.trans rfl rfl
  | .dpop _, env, ρ, k => Eq.trans rfl rfl
  | .dlen _, env, ρ, k => Eq.trans rfl rfl
  | .fstr _, env, ρ, k => Eq.trans rfl rfl
  | .lrev _, env, ρ, k => Eq.trans rfl rfl
  | .sset _, env, ρ, k => Eq.trans rfl rfl
  | .lset _, env, ρ, k => Eq.trans rfl rfl
  | .cmp3 _ _ _ _ _ _ _, env, ρ, k => Eq.trans rfl rfl
  | .lvals _, env, ρ, k => Eq.trans rfl rfl
  | .litems _, env, ρ, k => Eq.trans rfl rfl
  | .lzip _ _, env, ρ, k => Eq.trans rfl rfl
  | .dsp _ _ _, env, ρ, k => Eq.trans rfl rfl
  | .fmt _, env, ρ, k => Eq.trans rfl rfl
  | .rpr _, env, ρ, k => Eq.trans rfl rfl
  | .dead, env, ρ, k => Eq.trans rfl rfl
  | .and _, env, ρ, k => Eq.trans rfl rfl
  | .or _, env, ρ, k => Eq.trans rfl rfl
  | .not _, env, ρ, k => Eq.trans rfl rfl
theorem kTand_eq (G : Cfg) : ∀ (c : CE) (env : Env) {ρ : Type} (k : Bool → M ρ), kTand G c env k = bnd (evTand G c env) k
  | .cons c cs, env, ρ, k => by
    cases hn : isNilC cs with
    | true =>
      obtain rfl := isNilC_eq hn
      rw [kTand]
      exact kC_eq G c env k
    | false =>
      rw [kTand_cons hn, evTandC hn, kC_eq G c]
      refine ((bnd_rb (evT G c env) _ k).trans (bnd_ext rfl fun t => ?_)).symm
      rw [kTand_eq G cs, ret_bnd]
      rfl
  | .var _, env, ρ, k => Eq.trans rfl rfl
  | .non, env, ρ, k => Eq.trans rfl rfl
  | .bl _, env, ρ, k => Eq.trans rfl rfl
  | .int _, env, ρ, k => Eq.trans rfl rfl
  | .str _, env, ρ, k => Eq.trans rfl rfl
  | .glo _, env, ρ, k => Eq.trans rfl rfl
  | .fnv _, env, ρ, k => Eq.trans rfl rfl
  | .nil, env, ρ, k => Eq.trans rfl rfl
  | .scons _ _, env, ρ, k => Eq.trans rfl rfl
  | .bin _ _ _, env, ρ, k => Eq.trans rfl rfl
  | .neg _, env, ρ, k => Eq.trans rfl rfl
  | .cmp _ _ _, env, ρ, k => Eq.trans rfl rfl
  | .cmp2 _ _ _ _ _, env, ρ, k => Eq.trans rfl rfl
  | .isN _, env, ρ, k => Eq.trans rfl rfl
  | .notN _, env, ρ, k => Eq.trans rfl rfl
  | .ife _ _ _, env, ρ, k => Eq.trans rfl rfl
  | .tup _, env, ρ, k => Eq.trans rfl rfl
  | .lst _, env, ρ, k => Eq.trans rfl rfl
  | .dicE _, env, ρ, k => Eq.trans rfl rfl
  | .call _ _, env, ρ, k => Eq.trans rfl rfl
  | .callv _ _, env, ρ, k => Eq.trans rfl rfl
  | .blt _ _, env, ρ, k => Eq.trans rfl rfl
  | .isi _ _, env, ρ, k => Eq.trans rfl rfl
  | .meth _ _ _, env, ρ, k => Eq.trans rfl rfl
  | .ix _ _, env, ρ, k => Eq.trans rfl rfl
  | .sl _ _ _, env, ρ, k => Eq.trans rfl rfl
  | .rev _, env, ρ, k => Eq.trans rfl rfl
  | .rng _, env, ρ, k => Eq.trans rfl rfl
  | .enum _, env, ρ, k => Eq.trans rfl rfl
  | .zip _ _, env, ρ, k => Eq.trans rfl rfl
  | .items _, env, ρ, k => Eq.trans rfl rfl
  | .vals _, env, ρ, k => Eq.trans rfl rfl
  | .rvd _, env, ρ, k => Eq.trans rfl rfl
  | .keys _, env, ρ, k => Eq.trans rfl rfl
  | .lc _ _ _ _, env, ρ, k => Eq.trans rfl rfl
  | .lc2 _ _ _ _ _ _ _, env, ρ, k => Eq.trans rfl rfl
  | .dc _ _ _ _ _ _, env, ρ, k => Eq.trans rfl rfl
  | .dpop _, env, ρ, k => Eq.trans rfl rfl
  | .dlen _, env, ρ, k => Eq.trans rfl rfl
  | .fstr _, env, ρ, k => Eq.trans rfl rfl
  | .lrev _, env, ρ, k => Eq.trans rfl rfl
  | .sset _, env, ρ, k => Eq.trans rfl rfl
  | .lset _, env, ρ, k => Eq.trans rfl rfl
  | .cmp3 _ _ _ _ _ _ _, env, ρ, k => Eq.trans rfl rfl
  | .lvals _, env, ρ, k => Eq.trans rfl rfl
  | .litems _, env, ρ, k => Eq.trans rfl rfl
  | .lzip _ _, env, ρ, k => Eq.trans rfl rfl
  | .dsp _ _ _, env, ρ, k => Eq.trans rfl rfl
  | .fmt _, env, ρ, k => Eq.trans rfl rfl
  | .rpr _, env, ρ, k => Eq.trans rfl rfl
  | .dead, env, ρ, k => Eq.trans rfl rfl
  | .and _, env, ρ, k => Eq.trans rfl rfl
  | .or _, env, ρ, k => Eq.trans rfl rfl
  | .not _, env, ρ, k => Eq.trans rfl rfl
theorem kTor_eq (G : Cfg) : ∀ (c : CE) (env : Env) {ρ : Type} (k : Bool → M ρ), kTor G c env k = bnd (evTor G c env) k
  | .cons c cs, env, ρ, k => by
    cases hn : isNilC cs with
    | true =>
      obtain rfl := isNilC_eq hn
      rw [kTor]
      exact kC_eq G c env k
    | false =>
      rw [kTor_cons hn, evTorC hn, kC_eq G c]
      refine ((bnd_rb (evT G c env) _ k).trans (bnd_ext rfl fun t => ?_)).symm
      rw [kTor_eq G cs, ret_bnd]
      rfl
  | .var _, env, ρ, k => Eq.trans rfl rfl
  | .non, env, ρ, k => Eq.trans rfl rfl
  | .bl _, env, ρ, k => Eq.trans rfl rfl
  | .int _, env, ρ, k => Eq.trans rfl rfl
  | .str _, env, ρ, k => Eq.trans rfl rfl
  | .glo _, env, ρ, k => Eq.trans rfl rfl
  | .fnv _, env, ρ, k => Eq.trans rfl rfl
  | .nil, env, ρ, k => Eq.trans rfl rfl
  | .scons _ _, env, ρ, k => Eq.trans rfl rfl
  | .bin _ _ _, env, ρ, k => Eq.trans rfl rfl
  | .neg _, env, ρ, k => Eq.trans rfl rfl
  | .cmp _ _ _, env, ρ, k => Eq.trans rfl rfl
  | .cmp2 _ _ _ _ _, env, ρ, k => Eq.trans rfl rfl
  | .isN _, env, ρ, k => Eq.trans rfl rfl
  | .notN _, env, ρ, k => Eq.trans rfl rfl
  | .ife _ _ _, env, ρ, k => Eq.trans rfl rfl
  | .tup _, env, ρ, k => Eq.trans rfl rfl
  | .lst _, env, ρ, k => Eq.trans rfl rfl
  | .dicE _, env, ρ, k => Eq.trans rfl rfl
  | .call _ _, env, ρ, k => Eq.trans rfl rfl
  | .callv _ _, env, ρ, k => Eq.trans rfl rfl
  | .blt _ _, env, ρ, k => Eq.trans rfl rfl
  | .isi _ _, env, ρ, k => Eq.trans rfl rfl
  | .meth _ _ _, env, ρ, k => Eq.trans rfl rfl
  | .ix _ _, env, ρ, k => Eq.trans rfl rfl
  | .sl _ _ _, env, ρ, k => Eq.trans rfl rfl
  | .rev _, env, ρ, k => Eq.trans rfl rfl
  | .rng _, env, ρ, k => Eq.trans rfl rfl
  | .enum _, env, ρ, k => Eq.trans rfl rfl
  | .zip _ _, env, ρ, k => Eq.trans rfl rfl
  | .items _, env, ρ, k => Eq.trans rfl rfl
  | .vals _, env, ρ, k => Eq.trans rfl rfl
  | .rvd _, env, ρ, k => Eq.trans rfl rfl
  | .keys _, env, ρ, k => Eq.trans rfl rfl
  | .lc _ _ _ _, env, ρ, k => Eq.trans rfl rfl
  | .lc2 _ _ _ _ _ _ _, env, ρ, k => Eq.trans rfl rfl
  | .dc _ _ _ _ _ _, env, ρ, k => Eq.trans rfl rfl
  | .dpop _, env, ρ, k => Eq.trans rfl rfl
  | .dlen _, env, ρ, k => Eq.trans rfl rfl
  | .fstr _, env, ρ, k => Eq.trans rfl rfl
  | .lrev _, env, ρ, k => Eq.trans rfl rfl
  | .sset _, env, ρ, k => Eq.trans rfl rfl
  | .lset _, env, ρ, k => Eq.trans rfl rfl
  | .cmp3 _ _ _ _ _ _ _, env, ρ, k => Eq.trans rfl rfl
  | .lvals _, env, ρ, k => Eq.trans rfl rfl
  | .litems _, env, ρ, k => Eq.trans rfl rfl
  | .lzip _ _, env, ρ, k => Eq.trans rfl rfl
  | .dsp _ _ _, env, ρ, k => Eq.trans rfl rfl
  | .fmt _, env, ρ, k => Eq.trans rfl rfl
  | .rpr _, env, ρ, k => Eq.trans rfl rfl
  | .dead, env, ρ, k => Eq.trans rfl rfl
  | .and _, env, ρ, k => Eq.trans rfl rfl
  | .or _, env, ρ, k => Eq.trans rfl rfl
  | .not _, env, ρ, k => Eq.trans rfl rfl
theorem kAnd_eq (G : Cfg) : ∀ (c : CE) (env : Env) {ρ : Type} (k : D → M ρ), kAnd G c env k = bnd (evAnd G c env) k
  | .cons c cs, env, ρ, k => by
    cases hn : isNilC cs with
    | true =>
      obtain rfl := isNilC_eq hn
      rw [kAnd]
      exact kE_eq G c false env k
    | false =>
      rw [kAnd_cons hn, evAndC hn, kE_eq G c]
      refine ((bnd_rb (evE G c true env) _ k).trans (bnd_ext rfl fun x => ?_)).symm
      rw [kAnd_eq G cs, ret_bnd]
      cases x <;> first | rfl | (rename_i b; cases b <;> rfl)
  | .var _, env, ρ, k => Eq.trans rfl rfl
  | .non, env, ρ, k => Eq.trans rfl rfl
  | .bl _, env, ρ, k => Eq.trans rfl rfl
  | .int _, env, ρ, k => Eq.trans rfl rfl
  | .str _, env, ρ, k => Eq.trans rfl rfl
  | .glo _, env, ρ, k => Eq.trans rfl rfl
  | .fnv _, env, ρ, k => Eq.trans rfl rfl
  | .nil, env, ρ, k => Eq.trans rfl rfl
  | .scons _ _, env, ρ, k => Eq.trans rfl rfl
  | .bin _ _ _, env, ρ, k => Eq.trans rfl rfl
  | .neg _, env, ρ, k => Eq.trans rfl rfl
  | .cmp _ _ _, env, ρ, k => Eq.trans rfl rfl
  | .cmp2 _ _ _ _ _, env, ρ, k => Eq.trans rfl rfl
  | .isN _, env, ρ, k => Eq.trans rfl rfl
  | .notN _, env, ρ, k => Eq.trans rfl rfl
  | .ife _ _ _, env, ρ, k => Eq.trans rfl rfl
  | .tup _, env, ρ, k => Eq.trans rfl rfl
  | .lst _, env, ρ, k => Eq.trans rfl rfl
  | .dicE _, env, ρ, k => Eq.trans rfl rfl
  | .call _ _, env, ρ, k => Eq.trans rfl rfl
  | .callv _ _, env, ρ, k => Eq.trans rfl rfl
  | .blt _ _, env, ρ, k => Eq.trans rfl rfl
  | .isi _ _, env, ρ, k => Eq.trans rfl rfl
  | .meth _ _ _, env, ρ, k => Eq.trans rfl rfl
  | .ix _ _, env, ρ, k => Eq.trans rfl rfl
  | .sl _ _ _, env, ρ, k => Eq.trans rfl rfl
  | .rev _, env, ρ, k => Eq.trans rfl rfl
  | .rng _, env, ρ, k => Eq.trans rfl rfl
  | .enum _, env, ρ, k => Eq.trans rfl rfl
  | .zip _ _, env, ρ, k => Eq.trans rfl rfl
  | .items _, env, ρ, k => Eq.trans rfl rfl
  | .vals _, env, ρ, k => Eq.trans rfl rfl
  | .rvd _, env, ρ, k => Eq.trans rfl rfl
  | .keys _, env, ρ, k => Eq.trans rfl rfl
  | .lc _ _ _ _, env, ρ, k => Eq.trans rfl rfl
  | .lc2 _ _ _ _ _ _ _, env, ρ, k => Eq.trans rfl rfl
  | .dc _ _ _ _ _ _, env, ρ, k => Eq.trans rfl rfl
  | .dpop _, env, ρ, k => Eq.trans rfl rfl
  | .dlen _, env, ρ, k => Eq.trans rfl rfl
  | .fstr _, env, ρ, k => Eq.trans rfl rfl
  | .lrev _, env, ρ, k => Eq.trans rfl rfl
  | .sset _, env, ρ, k => Eq.trans rfl rfl
  | .lset _, env, ρ, k => Eq.trans rfl rfl
  | .cmp3 _ _ _ _ _ _ _, env, ρ, k => Eq.trans rfl rfl
  | .lvals _, env, ρ, k => Eq.trans rfl rfl
  | .litems _, env, ρ, k => Eq.trans rfl rfl
  | .lzip _ _, env, ρ, k => Eq.trans rfl rfl
  | .dsp _ _ _, env, ρ, k => Eq.trans rfl rfl
  | .fmt _, env, ρ, k => Eq.trans rfl rfl
  | .rpr _, env, ρ, k => Eq.trans rfl rfl
  | .dead, env, ρ, k => Eq.trans rfl rfl
  | .and _, env, ρ, k => Eq.trans rfl rfl
  | .or _, env, ρ, k => Eq.trans rfl rfl
  | .not _, env, ρ, k => Eq.trans rfl rfl
theorem kOr_eq (G : Cfg) : ∀ (c : CE) (env : Env) {ρ : Type} (k : D → M ρ), kOr G c env k = bnd (evOr G c env) k
  | .cons c cs, env, ρ, k => by
    cases hn : isNilC cs with
    | true =>
      obtain rfl := isNilC_eq hn
      rw [kOr]
      exact kE_eq G c false env k
    | false =>
      rw [kOr_cons hn, evOrC hn, kE_eq G c]
      refine ((bnd_rb (evE G c true env) _ k).trans (bnd_ext rfl fun x => ?_)).symm
      rw [kOr_eq G cs, ret_bnd]
      cases x <;> first | rfl | (rename_i b; cases b <;> rfl)
  | .var _, env, ρ, k => Eq.trans rfl rfl
  | .non, env, ρ, k => Eq.trans rfl rfl
  | .bl _, env, ρ, k => Eq.trans rfl rfl
  | .int _, env, ρ, k => Eq.trans rfl rfl
  | .str _, env, ρ, k => Eq.trans rfl rfl
  | .glo _, env, ρ, k => Eq.trans rfl rfl
  | .fnv _, env, ρ, k => Eq.trans rfl rfl
  | .nil, env, ρ, k => Eq.trans rfl rfl
  | .scons _ _, env, ρ, k => Eq.trans rfl rfl
  | .bin _ _ _, env, ρ, k => Eq.trans rfl rfl
  | .neg _, env, ρ, k => Eq.trans rfl rfl
  | .cmp _ _ _, env, ρ, k => Eq.trans rfl rfl
  | .cmp2 _ _ _ _ _, env, ρ, k => Eq.trans rfl rfl
  | .isN _, env, ρ, k => Eq.trans rfl rfl
  | .notN _, env, ρ, k => Eq.trans rfl rfl
  | .ife _ _ _, env, ρ, k => Eq.trans rfl rfl
  | .tup _, env, ρ, k => Eq.trans rfl rfl
  | .lst _, env, ρ, k => Eq.trans rfl rfl
  | .dicE _, env, ρ, k => Eq.trans rfl rfl
  | .call _ _, env, ρ, k => Eq.trans rfl rfl
  | .callv _ _, env, ρ, k => Eq.trans rfl rfl
  | .blt _ _, env, ρ, k => Eq.trans rfl rfl
  | .isi _ _, env, ρ, k => Eq.trans rfl rfl
  | .meth _ _ _, env, ρ, k => Eq.trans rfl rfl
  | .ix _ _, env, ρ, k => Eq.trans rfl rfl
  | .sl _ _ _, env, ρ, k => Eq.trans rfl rfl
  | .rev _, env, ρ, k => Eq.trans rfl rfl
  | .rng _, env, ρ, k => Eq.trans rfl rfl
  | .enum _, env, ρ, k => Eq.trans rfl rfl
  | .zip _ _, env, ρ, k => Eq.trans rfl rfl
  | .items _, env, ρ, k => Eq.trans rfl rfl
  | .vals _, env, ρ, k => Eq.trans rfl rfl
  | .rvd _, env, ρ, k => Eq.trans rfl rfl
  | .keys _, env, ρ, k => Eq.trans rfl rfl
  | .lc _ _ _ _, env, ρ, k => Eq.trans rfl rfl
  | .lc2 _ _ _ _ _ _ _, env, ρ, k => Eq.trans rfl rfl
  | .dc _ _ _ _ _ _, env, ρ, k => Eq.trans rfl rfl
  | .dpop _, env, ρ, k => Eq.trans rfl rfl
  | .dlen _, env, ρ, k => Eq.trans rfl rfl
  | .fstr _, env, ρ, k => Eq.trans rfl rfl
  | .lrev _, env, ρ, k => Eq.trans rfl rfl
  | .sset _, env, ρ, k => Eq.trans rfl rfl
  | .lset _, env, ρ, k => Eq.trans rfl rfl
  | .cmp3 _ _ _ _ _ _ _, env, ρ, k => Eq.trans rfl rfl
  | .lvals _, env, ρ, k => Eq.trans rfl rfl
  | .litems _, env, ρ, k => Eq.trans rfl rfl
  | .lzip _ _, env, ρ, k => Eq.trans rfl rfl
  | .dsp _ _ _, env, ρ, k => Eq.trans rfl rfl
  | .fmt _, env, ρ, k => Eq.trans rfl rfl
  | .rpr _, env, ρ, k => Eq.trans rfl rfl
  | .dead, env, ρ, k => Eq.trans rfl rfl
  | .and _, env, ρ, k => Eq.trans rfl rfl
  | .or _, env, ρ, k => Eq.trans rfl rfl
  | .not _, env, ρ, k => Eq.trans rfl rfl
theorem kL_eq (G : Cfg) : ∀ (c : CE) (env : Env) {ρ : Type} (k : List D → M ρ), kL G c env k = bnd (evL G c env) k
  | .cons e es, env, ρ, k => by
    rw [kL, kE_eq G e]
    refine ((bnd_rb (evE G e false env) _ k).trans (bnd_ext rfl fun d => ?_)).symm
    rw [kL_eq G es]
    exact (bnd_rb (evL G es env) _ k).trans (bnd_ext rfl fun ds => rfl)
  | .scons e es, env, ρ, k => by
    rw [kL, kE_eq G e]
    refine ((bnd_rb (evE G e true env) _ k).trans (bnd_ext rfl fun d => ?_)).symm
    refine (bnd_rb (fun dr => ofO (seqD d) dr) _ k).trans ?_
    rw [op_bnd]
    refine kO_ext rfl fun xs => ?_
    rw [kL_eq G es]
    exact (bnd_rb (evL G es env) _ k).trans (bnd_ext rfl fun ds => rfl)
  | .var _, env, ρ, k => Eq.trans rfl rfl
  | .non, env, ρ, k => Eq.trans rfl rfl
  | .bl _, env, ρ, k => Eq.trans rfl rfl
  | .int _, env, ρ, k => Eq.trans rfl rfl
  | .str _, env, ρ, k => Eq.trans rfl rfl
  | .glo _, env, ρ, k => Eq.trans rfl rfl
  | .fnv _, env, ρ, k => Eq.trans rfl rfl
  | .nil, env, ρ, k => Eq.trans rfl rfl
  | .bin _ _ _, env, ρ, k => Eq.trans rfl rfl
  | .neg _, env, ρ, k => Eq.trans rfl rfl
  | .cmp _ _ _, env, ρ, k => Eq.trans rfl rfl
  | .cmp2 _ _ _ _ _, env, ρ, k => Eq.trans rfl rfl
  | .isN _, env, ρ, k => Eq.trans rfl rfl
  | .notN _, env, ρ, k => Eq.trans rfl rfl
  | .ife _ _ _, env, ρ, k => Eq.trans rfl rfl
  | .tup _, env, ρ, k => Eq.trans rfl rfl
  | .lst _, env, ρ, k => Eq.trans rfl rfl
  | .dicE _, env, ρ, k => Eq.trans rfl rfl
  | .call _ _, env, ρ, k => Eq.trans rfl rfl
  | .callv _ _, env, ρ, k => Eq.trans rfl rfl
  | .blt _ _, env, ρ, k => Eq.trans rfl rfl
  | .isi _ _, env, ρ, k => Eq.trans rfl rfl
  | .meth _ _ _, env, ρ, k => Eq.trans rfl rfl
  | .ix _ _, env, ρ, k => Eq.trans rfl rfl
  | .sl _ _ _, env, ρ, k => Eq.trans rfl rfl
  | .rev _, env, ρ, k => Eq.trans rfl rfl
  | .rng _, env, ρ, k => Eq.trans rfl rfl
  | .enum _, env, ρ, k => Eq.trans rfl rfl
  | .zip _ _, env, ρ, k => Eq.trans rfl rfl
  | .items _, env, ρ, k => Eq.trans rfl rfl
  | .vals _, env, ρ, k => Eq.trans rfl rfl
  | .rvd _, env, ρ, k => Eq.trans rfl rfl
  | .keys _, env, ρ, k => Eq.trans rfl rfl
  | .lc _ _ _ _, env, ρ, k => Eq.trans rfl rfl
  | .lc2 _ _ _ _ _ _ _, env, ρ, k => Eq.trans rfl rfl
  | .dc _ _ _ _ _ _, env, ρ, k => Eq.trans rfl rfl
  | .dpop _, env, ρ, k => Eq.trans rfl rfl
  | .dlen _, env, ρ, k => Eq.trans rfl rfl
  | .fstr _, env, ρ, k => Eq.trans rfl rfl
  | .lrev _, env, ρ, k => Eq.trans rfl rfl
  | .sset _, env, ρ, k => Eq.trans rfl rfl
  | .lset _, env, ρ, k => Eq.trans rfl rfl
  | .cmp3 _ _ _ _ _ _ _, env, ρ, k => Eq.trans rfl rfl
  | .lvals _, env, ρ, k => Eq.trans rfl rfl
  | .litems _, env, ρ, k => Eq.trans rfl rfl
  | .lzip _ _, env, ρ, k => Eq.trans rfl rfl
  | .dsp _ _ _, env, ρ, k => Eq.trans rfl rfl
  | .fmt _, env, ρ, k => Eq.trans rfl rfl
  | .rpr _, env, ρ, k => Eq.trans rfl rfl
  | .dead, env, ρ, k => Eq.trans rfl rfl
  | .and _, env, ρ, k => Eq.trans rfl rfl
  | .or _, env, ρ, k => Eq.trans rfl rfl
  | .not _, env, ρ, k => Eq.trans rfl rfl
theorem kLp_eq (G : Cfg) : ∀ (c : CE) (env : Env) {ρ : Type} (k : List D → M ρ), kLp G c env k = bnd (evLp G c env) k
  | .cons e es, env, ρ, k => by
    rw [kLp, kE_eq G e]
    refine ((bnd_rb (evE G e true env) _ k).trans (bnd_ext rfl fun d => ?_)).symm
    rw [kLp_eq G es]
    exact (bnd_rb (evLp G es env) _ k).trans (bnd_ext rfl fun ds => rfl)
  | .var _, env, ρ, k => Eq.trans rfl rfl
  | .non, env, ρ, k => Eq.trans rfl rfl
  | .bl _, env, ρ, k => Eq.trans rfl rfl
  | .int _, env, ρ, k => Eq.trans rfl rfl
  | .str _, env, ρ, k => Eq.trans rfl rfl
  | .glo _, env, ρ, k => Eq.trans rfl rfl
  | .fnv _, env, ρ, k => Eq.trans rfl rfl
  | .nil, env, ρ, k => Eq.trans rfl rfl
  | .scons _ _, env, ρ, k => Eq.trans rfl rfl
  | .bin _ _ _, env, ρ, k => Eq.trans rfl rfl
  | .neg _, env, ρ, k => Eq.trans rfl rfl
  | .cmp _ _ _, env, ρ, k => Eq.trans rfl rfl
  | .cmp2 _ _ _ _ _, env, ρ, k => Eq.trans rfl rfl
  | .isN _, env, ρ, k => Eq.trans rfl rfl
  | .notN _, env, ρ, k => Eq.trans rfl rfl
  | .ife _ _ _, env, ρ, k => Eq.trans rfl rfl
  | .tup _, env, ρ, k => Eq.trans rfl rfl
  | .lst _, env, ρ, k => Eq.trans rfl rfl
  | .dicE _, env, ρ, k => Eq.trans rfl rfl
  | .call _ _, env, ρ, k => Eq.trans rfl rfl
  | .callv _ _, env, ρ, k => Eq.trans rfl rfl
  | .blt _ _, env, ρ, k => Eq.trans rfl rfl
  | .isi _ _, env, ρ, k => Eq.trans rfl rfl
  | .meth _ _ _, env, ρ, k => Eq.trans rfl rfl
  | .ix _ _, env, ρ, k => Eq.trans rfl rfl
  | .sl _ _ _, env, ρ, k => Eq.trans rfl rfl
  | .rev _, env, ρ, k => Eq.trans rfl rfl
  | .rng _, env, ρ, k => Eq.trans rfl rfl
  | .enum _, env, ρ, k => Eq.trans rfl rfl
  | .zip _ _, env, ρ, k => Eq.trans rfl rfl
  | .items _, env, ρ, k => Eq.trans rfl rfl
  | .vals _, env, ρ, k => Eq.trans rfl rfl
  | .rvd _, env, ρ, k => Eq.trans rfl rfl
  | .keys _, env, ρ, k => Eq.trans rfl rfl
  | .lc _ _ _ _, env, ρ, k => Eq.trans rfl rfl
  | .lc2 _ _ _ _ _ _ _, env, ρ, k => Eq.trans rfl rfl
  | .dc _ _ _ _ _ _, env, ρ, k => Eq.trans rfl rfl
  | .dpop _, env, ρ, k => Eq.trans rfl rfl
  | .dlen _, env, ρ, k => Eq.trans rfl rfl
  | .fstr _, env, ρ, k => Eq.trans rfl rfl
  | .lrev _, env, ρ, k => Eq.trans rfl rfl
  | .sset _, env, ρ, k => Eq.trans rfl rfl
  | .lset _, env, ρ, k => Eq.trans rfl rfl
  | .cmp3 _ _ _ _ _ _ _, env, ρ, k => Eq.trans rfl rfl
  | .lvals _, env, ρ, k => Eq.trans rfl rfl
  | .litems _, env, ρ, k => Eq.trans rfl rfl
  | .lzip _ _, env, ρ, k => Eq.trans rfl rfl
  | .dsp _ _ _, env, ρ, k => Eq.trans rfl rfl
  | .fmt _, env, ρ, k => Eq.trans rfl rfl
  | .rpr _, env, ρ, k => Eq.trans rfl rfl
  | .dead, env, ρ, k => Eq.trans rfl rfl
  | .and _, env, ρ, k => Eq.trans rfl rfl
  | .or _, env, ρ, k => Eq.trans rfl rfl
  | .not _, env, ρ, k => Eq.trans rfl rfl
theorem kQ_eq (G : Cfg) : ∀ (c : CE) (env : Env) {ρ : Type} (k : Option Int → M ρ), kQ G c env k = bnd (evO G c env) k
  | .cons c cs, env, ρ, k => by
    cases hn : isNilC cs with
    | true =>
      obtain rfl := isNilC_eq hn
      rw [kQ, kE_eq G c]
      refine ((bnd_rb (evE G c true env) _ k).trans (bnd_ext rfl fun d => ?_)).symm
      rw [op_bnd]
      cases d <;> rfl
    | false =>
      cases cs <;> first | (cases hn; done) | rfl
  | .var _, env, ρ, k => Eq.trans rfl rfl
  | .non, env, ρ, k => Eq.trans rfl rfl
  | .bl _, env, ρ, k => Eq.trans rfl rfl
  | .int _, env, ρ, k => Eq.trans rfl rfl
  | .str _, env, ρ, k => Eq.trans rfl rfl
  | .glo _, env, ρ, k => Eq.trans rfl rfl
  | .fnv _, env, ρ, k => Eq.trans rfl rfl
  | .nil, env, ρ, k => Eq.trans rfl rfl
  | .scons _ _, env, ρ, k => Eq.trans rfl rfl
  | .bin _ _ _, env, ρ, k => Eq.trans rfl rfl
  | .neg _, env, ρ, k => Eq.trans rfl rfl
  | .cmp _ _ _, env, ρ, k => Eq.trans rfl rfl
  | .cmp2 _ _ _ _ _, env, ρ, k => Eq.trans rfl rfl
  | .isN _, env, ρ, k => Eq.trans rfl rfl
  | .notN _, env, ρ, k => Eq.trans rfl rfl
  | .ife _ _ _, env, ρ, k => Eq.trans rfl rfl
  | .tup _, env, ρ, k => Eq.trans rfl rfl
  | .lst _, env, ρ, k => Eq.trans rfl rfl
  | .dicE _, env, ρ, k => Eq.trans rfl rfl
  | .call _ _, env, ρ, k => Eq.trans rfl rfl
  | .callv _ _, env, ρ, k => Eq.trans rfl rfl
  | .blt _ _, env, ρ, k => Eq.trans rfl rfl
  | .isi _ _, env, ρ, k => Eq.trans rfl rfl
  | .meth _ _ _, env, ρ, k => Eq.trans rfl rfl
  | .ix _ _, env, ρ, k => Eq.trans rfl rfl
  | .sl _ _ _, env, ρ, k => Eq.trans rfl rfl
  | .rev _, env, ρ, k => Eq.trans rfl rfl
  | .rng _, env, ρ, k => Eq.trans rfl rfl
  | .enum _, env, ρ, k => Eq.trans rfl rfl
  | .zip _ _, env, ρ, k => Eq.trans rfl rfl
  | .items _, env, ρ, k => Eq.trans rfl rfl
  | .vals _, env, ρ, k => Eq.trans rfl rfl
  | .rvd _, env, ρ, k => Eq.trans rfl rfl
  | .keys _, env, ρ, k => Eq.trans rfl rfl
  | .lc _ _ _ _, env, ρ, k => Eq.trans rfl rfl
  | .lc2 _ _ _ _ _ _ _, env, ρ, k => Eq.trans rfl rfl
  | .dc _ _ _ _ _ _, env, ρ, k => Eq.trans rfl rfl
  | .dpop _, env, ρ, k => Eq.trans rfl rfl
  | .dlen _, env, ρ, k => Eq.trans rfl rfl
  | .fstr _, env, ρ, k => Eq.trans rfl rfl
  | .lrev _, env, ρ, k => Eq.trans rfl rfl
  | .sset _, env, ρ, k => Eq.trans rfl rfl
  | .lset _, env, ρ, k => Eq.trans rfl rfl
  | .cmp3 _ _ _ _ _ _ _, env, ρ, k => Eq.trans rfl rfl
  | .lvals _, env, ρ, k => Eq.trans rfl rfl
  | .litems _, env, ρ, k => Eq.trans rfl rfl
  | .lzip _ _, env, ρ, k => Eq.trans rfl rfl
  | .dsp _ _ _, env, ρ, k => Eq.trans rfl rfl
  | .fmt _, env, ρ, k => Eq.trans rfl rfl
  | .rpr _, env, ρ, k => Eq.trans rfl rfl
  | .dead, env, ρ, k => Eq.trans rfl rfl
  | .and _, env, ρ, k => Eq.trans rfl rfl
  | .or _, env, ρ, k => Eq.trans rfl rfl
  | .not _, env, ρ, k => Eq.trans rfl rfl
theorem kI_eq (G : Cfg) : ∀ (c : CE) (pk : Bool) (env : Env) {ρ : Type} (k : List D → M ρ), kI G c pk env k = bnd (evI G c pk env) k
  | .rng es, pk, env, ρ, k => by
    rw [kI, kLp_eq G es]
    exact ((bnd_rb (evLp G es env) _ k).trans (bnd_ext rfl fun ds => op_bnd _ _)).symm
  | .enum a, pk, env, ρ, k => by
    rw [kI, kE_eq G a]
    refine ((bnd_rb (evE G a pk env) _ k).trans (bnd_ext rfl fun ds => ?_)).symm
    rw [op_bnd, kO_map]
  | .zip a b, pk, env, ρ, k => by
    rw [kI, kE_eq G a]
    refine ((bnd_rb (evE G a pk env) _ k).trans (bnd_ext rfl fun d => ?_)).symm
    rw [kE_eq G b]
    refine (bnd_rb (evE G b pk env) _ k).trans (bnd_ext rfl fun e => ?_)
    rw [op_bnd]
    cases iterD d with
    | none => rfl
    | some xs => cases iterD e <;> rfl
  | .items a, pk, env, ρ, k => by
    rw [kI, kE_eq G a]
    exact ((bnd_rb (evE G a false env) _ k).trans (bnd_ext rfl fun ds => op_bnd _ _)).symm
  | .vals a, pk, env, ρ, k => by
    rw [kI, kE_eq G a]
    exact ((bnd_rb (evE G a false env) _ k).trans (bnd_ext rfl fun ds => op_bnd _ _)).symm
  | .keys a, pk, env, ρ, k => by
    rw [kI, kE_eq G a]
    exact ((bnd_rb (evE G a false env) _ k).trans (bnd_ext rfl fun ds => op_bnd _ _)).symm
  | .cons c cs, pk, env, ρ, k => by
    cases hn : isNilC cs with
    | true =>
      obtain rfl := isNilC_eq hn
      rw [kI, kE_eq G c]
      exact ((bnd_rb (evE G c pk env) _ k).trans (bnd_ext rfl fun ds => op_bnd _ _)).symm
    | false =>
      cases cs <;> first | (cases hn; done) | rfl
  | .var _, pk, env, ρ, k => Eq.trans rfl rfl
  | .non, pk, env, ρ, k => Eq.trans rfl rfl
  | .bl _, pk, env, ρ, k => Eq.trans rfl rfl
  | .int _, pk, env, ρ, k => Eq.trans rfl rfl
  | .str _, pk, env, ρ, k => Eq.trans rfl rfl
  | .glo _, pk, env, ρ, k => Eq.trans rfl rfl
  | .fnv _, pk, env, ρ, k => Eq.trans rfl rfl
  | .nil, pk, env, ρ, k => Eq.trans rfl rfl
  | .scons _ _, pk, env, ρ, k => Eq.trans rfl rfl
  | .bin _ _ _, pk, env, ρ, k => Eq.trans rfl rfl
  | .neg _, pk, env, ρ, k => Eq.trans rfl rfl
  | .cmp _ _ _, pk, env, ρ, k => Eq.trans rfl rfl
  | .cmp2 _ _ _ _ _, pk, env, ρ, k => Eq.trans rfl rfl
  | .isN _, pk, env, ρ, k => Eq.trans rfl rfl
  | .notN _, pk, env, ρ, k => Eq.trans rfl rfl
  | .ife _ _ _, pk, env, ρ, k => Eq.trans rfl rfl
  | .tup _, pk, env, ρ, k => Eq.trans rfl rfl
  | .lst _, pk, env, ρ, k => Eq.trans rfl rfl
  | .dicE _, pk, env, ρ, k => Eq.trans rfl rfl
  | .call _ _, pk, env, ρ, k => Eq.trans rfl rfl
  | .callv _ _, pk, env, ρ, k => Eq.trans rfl rfl
  | .blt _ _, pk, env, ρ, k => Eq.trans rfl rfl
  | .isi _ _, pk, env, ρ, k => Eq.trans rfl rfl
  | .meth _ _ _, pk, env, ρ, k => Eq.trans rfl rfl
  | .ix _ _, pk, env, ρ, k => Eq.trans rfl rfl
  | .sl _ _ _, pk, env, ρ, k => Eq.trans rfl rfl
  | .rev _, pk, env, ρ, k => Eq.trans rfl rfl
  | .rvd _, pk, env, ρ, k => Eq.trans rfl rfl
  | .lc _ _ _ _, pk, env, ρ, k => Eq.trans rfl rfl
  | .lc2 _ _ _ _ _ _ _, pk, env, ρ, k => Eq.trans rfl rfl
  | .dc _ _ _ _ _ _, pk, env, ρ, k => Eq.trans rfl rfl
  | .dpop _, pk, env, ρ, k => Eq.trans rfl rfl
  | .dlen _, pk, env, ρ, k => Eq.trans rfl rfl
  | .fstr _, pk, env, ρ, k => Eq.trans rfl rfl
  | .lrev _, pk, env, ρ, k => Eq.trans rfl rfl
  | .sset _, pk, env, ρ, k => Eq.trans rfl rfl
  | .lset _, pk, env, ρ, k => Eq.trans rfl rfl
  | .cmp3 _ _ _ _ _ _ _, pk, env, ρ, k => Eq.trans rfl rfl
  | .lvals _, pk, env, ρ, k => Eq.trans rfl rfl
  | .litems _, pk, env, ρ, k => Eq.trans rfl rfl
  | .lzip _ _, pk, env, ρ, k => Eq.trans rfl rfl
  | .dsp _ _ _, pk, env, ρ, k => Eq.trans rfl rfl
  | .fmt _, pk, env, ρ, k => Eq.trans rfl rfl
  | .rpr _, pk, env, ρ, k => Eq.trans rfl rfl
  | .dead, pk, env, ρ, k => Eq.trans rfl rfl
  | .and _, pk, env, ρ, k => Eq.trans rfl rfl
  | .or _, pk, env, ρ, k => Eq.trans rfl rfl
  | .not _, pk, env, ρ, k => Eq.trans rfl rfl
end
end Cr
/-! Blocks with continuations. -/
namespace Cr
open PySem

section
variable {ρ : Type}
def hd (m : M Fl) (nx ct bk : Env → M ρ) (rt : D → M ρ) : M ρ := bnd m fun f => match f with
  | .nx e => nx e
  | .ct e => ct e
  | .bk e => bk e
  | .rt d => rt d
theorem hd_bnd {α : Type} (m : M α) (f : α → M Fl) (nx ct bk : Env → M ρ) (rt : D → M ρ) : hd (bnd m f) nx ct bk rt = bnd m fun x => hd (f x) nx ct bk rt := bnd_bnd _ _ _
theorem hd_rb {α : Type} (m : M α) (f : α → M Fl) (nx ct bk : Env → M ρ) (rt : D → M ρ) : hd (fun dr => (m dr).bind f) nx ct bk rt = bnd m fun x => hd (f x) nx ct bk rt := bnd_bnd _ _ _
theorem hd_op {α : Type} (o : Option α) (f : α → M Fl) (nx ct bk : Env → M ρ) (rt : D → M ρ) : hd (fun dr => (ofO o dr).bind f) nx ct bk rt = kO o fun x => hd (f x) nx ct bk rt := by cases o <;> rfl
/-- a loop's turns: the block tells how it goes on -/
def forK (b : D → Env → (Env → M ρ) → (Env → M ρ) → M ρ) : List D → Env → (Env → M ρ) → M ρ
  | [], env, k => k env
  | d :: ds, env, k => b d env (fun env => forK b ds env k) k
def whlK (c : Env → (Bool → M ρ) → M ρ) (b : Env → (Env → M ρ) → (Env → M ρ) → M ρ) : Nat → Env → (Env → M ρ) → M ρ
  | 0, _, _ => bad
  | n + 1, env, k => c env fun t => sel t (b env (fun env => whlK c b n env k) k) (k env)
theorem hd_for (B : D → Env → M Fl) (nx ct bk : Env → M ρ) (rt : D → M ρ) : ∀ (xs : List D) (env : Env), hd (fun dr => forL B xs env dr) nx ct bk rt = forK (fun d env nx bk => hd (B d env) nx nx bk rt) xs env nx
  | [], env => Eq.trans rfl rfl
  | d :: ds, env => by
    show hd (fun dr => (B d env dr).bind fun f dr => match f with
      | .nx env => forL B ds env dr
      | .ct env => forL B ds env dr
      | .bk env => .ok (.nx env) dr
      | .rt d => .ok (.rt d) dr) nx ct bk rt = hd (B d env) (fun env => forK _ ds env nx) (fun env => forK _ ds env nx) nx rt
    rw [hd_rb]
    refine bnd_ext rfl fun f => ?_
    cases f with
    | nx env => exact hd_for B nx ct bk rt ds env
    | ct env => exact hd_for B nx ct bk rt ds env
    | bk env => rfl
    | rt d => rfl
theorem hd_whl (c : Env → List Int → Res Bool) (B : Env → M Fl) (nx ct bk : Env → M ρ) (rt : D → M ρ) : ∀ (n : Nat) (env : Env), hd (fun dr => whlL c B n env dr) nx ct bk rt = whlK (fun env k => bnd (c env) k) (fun env nx bk => hd (B env) nx nx bk rt) n env nx
  | 0, env => Eq.trans rfl rfl
  | n + 1, env => by
    show hd (fun dr => (c env dr).bind fun t dr => match t with
      | false => .ok (.nx env) dr
      | true => (B env dr).bind fun f dr => match f with
        | .nx env => whlL c B n env dr
        | .ct env => whlL c B n env dr
        | .bk env => .ok (.nx env) dr
        | .rt d => .ok (.rt d) dr) nx ct bk rt = bnd (c env) fun t => sel t (hd (B env) (fun env => whlK _ _ n env nx) (fun env => whlK _ _ n env nx) nx rt) (nx env)
    rw [hd_rb]
    refine bnd_ext rfl fun t => ?_
    cases t with
    | false => rfl
    | true =>
      rw [sel_t]
      refine (hd_rb (B env) _ nx ct bk rt).trans (bnd_ext rfl fun f => ?_)
      cases f with
      | nx env => exact hd_whl c B nx ct bk rt n env
      | ct env => exact hd_whl c B nx ct bk rt n env
      | bk env => rfl
      | rt d => rfl
theorem hd_next (m : M Fl) (k : Env → M Fl) (nx ct bk : Env → M ρ) (rt : D → M ρ) : hd (fun dr => (m dr).bind fun f dr => match f with
    | .nx env => k env dr
    | f => .ok f dr) nx ct bk rt = hd m (fun env => hd (k env) nx ct bk rt) ct bk rt := by
  rw [hd_rb]
  refine bnd_ext rfl fun f => ?_
  cases f <;> rfl
end
def extD : D → D → Option D
  | .lst ds, .lst es => grd (szOk (ds.length + es.length)) (.lst (ds ++ es))
  | _, _ => none
def setD : D → D → D → Option D
  | .lst ds, .int i, d => (L2.ixN ds.length i).map fun j => .lst (ds.set j d)
  | .dicK ks ds, k, d => match k.key with
    | some k => grd (decide (ks.length < sizeLine)) (let r := putKs ks ds k d; .dicK r.1 r.2)
    | none => none
  | .dicT ks ds, .tup es, d => match keysOf es with
    | some k => grd (decide (ks.length < sizeLine)) (let r := putKs ks ds k d; .dicT r.1 r.2)
    | none => none
  | _, _, _ => none
def popD : D → Option (D × D)
  | .lst ds => match ds.getLast? with
    | some d => some (d, .lst ds.dropLast)
    | none => none
  | _ => none
def popKD : D → D → Option (D × D)
  | .dicK ks ds, k => match k.key with
    | some k => (lookK ks ds k).map fun v => let r := dropKs ks ds k; (v, .dicK r.1 r.2)
    | none => none
  | _, _ => none
theorem extS_eq (s : Sl) (d : D) : extS s d = (slD? s).bind fun o => (extD o d).map .own := by
  cases s with
  | own o =>
    cases o <;> cases d <;> first | rfl | (show grd _ _ = (grd _ _).map _; unfold grd; split <;> rfl)
  | _ => rfl
theorem setS_eq (s : Sl) (y d : D) : setS s y d = (slD? s).bind fun o => (setD o y d).map .own := by
  cases s with
  | own o =>
    cases o with
    | lst ds => cases y <;> first | rfl | (show Option.map _ _ = Option.map _ (Option.map _ _); rw [Option.map_map]; rfl)
    | dicK ks ds =>
      show (match y.key with
        | some k => _
        | none => none) = Option.map _ (match y.key with
        | some k => _
        | none => none)
      cases y.key with
      | none => rfl
      | some k => show grd _ _ = (grd _ _).map _; unfold grd; split <;> rfl
    | dicT ks ds =>
      cases y with
      | tup es =>
        show (match keysOf es with
          | some k => _
          | none => none) = Option.map _ (match keysOf es with
          | some k => _
          | none => none)
        cases keysOf es with
        | none => rfl
        | some k => show grd _ _ = (grd _ _).map _; unfold grd; split <;> rfl
      | _ => rfl
    | _ => cases y <;> rfl
  | _ => rfl
theorem popS_eq (s : Sl) : popS s = (slD? s).bind fun o => (popD o).map fun q => (q.1, .own q.2) := by
  cases s with
  | own o =>
    cases o with
    | lst ds =>
      show (match ds.getLast? with
        | some d => some (d, Sl.own (.lst ds.dropLast))
        | none => none) = Option.map _ (match ds.getLast? with
        | some d => some (d, D.lst ds.dropLast)
        | none => none)
      cases ds.getLast? <;> rfl
    | _ => rfl
  | _ => rfl
theorem popDS_eq (s : Sl) (k : D) : popDS s k = (slD? s).bind fun o => (popKD o k).map fun q => (q.1, .own q.2) := by
  cases s with
  | own o =>
    cases o with
    | dicK ks ds =>
      show (match k.key with
        | some k => _
        | none => none) = Option.map _ (match k.key with
        | some k => _
        | none => none)
      cases k.key with
      | none => rfl
      | some k => cases h : lookK ks ds k <;> simp [h]
    | _ => rfl
  | _ => rfl
def kSet {ρ : Type} : List (Nat × Bool) → List D → Env → (Env → M ρ) → M ρ
  | [], [], env, k => k env
  | (i, o) :: is, d :: ds, env, k => kO (setSl env i (if o then .own d else .val d)) fun env => kSet is ds env k
  | _, _, _, _ => bad
theorem kSet_eq {ρ : Type} : ∀ (is : List (Nat × Bool)) (ds : List D) (env : Env) (k : Env → M ρ), kSet is ds env k = kO (setAll env is ds) k
  | [], [], env, k => Eq.trans rfl rfl
  | [], _ :: _, env, k => Eq.trans rfl rfl
  | (i, o) :: is, [], env, k => Eq.trans rfl rfl
  | (i, o) :: is, d :: ds, env, k => by
    show kO (setSl env i (if o then .own d else .val d)) _ = kO ((setSl env i (if o then .own d else .val d)).bind fun env => setAll env is ds) k
    rw [kO_bind]
    exact kO_ext rfl fun env => kSet_eq is ds env k
def kLo (G : Cfg) : List (Nat × Bool) → CE → Env → {ρ : Type} → (List D → M ρ) → M ρ
  | [], .nil, _, _, k => k []
  | (_, o) :: is, .cons e es, env, _, k => kE G e false env fun d => kO (if o then freshD d else some d) fun d => kLo G is es env fun ds => k (d :: ds)
  | is, c, env, _, k => bnd (evLo G is c env) k
theorem kLo_eq (G : Cfg) : ∀ (is : List (Nat × Bool)) (c : CE) (env : Env) {ρ : Type} (k : List D → M ρ), kLo G is c env k = bnd (evLo G is c env) k
  | [], c, env, ρ, k => by cases c <;> rfl
  | (i, o) :: is, c, env, ρ, k => by
    cases c with
    | cons e es =>
      rw [kLo, kE_eq]
      refine ((bnd_rb (evE G e false env) _ k).trans (bnd_ext rfl fun d => ?_)).symm
      refine (bnd_rb (fun dr => ofO (if o then freshD d else some d) dr) _ k).trans ?_
      rw [op_bnd]
      refine kO_ext rfl fun d => ?_
      rw [kLo_eq G is es]
      exact (bnd_rb (evLo G is es env) _ k).trans (bnd_ext rfl fun ds => rfl)
    | _ => rfl
/-- errors of a block caught -/
def tryM (G : Cfg) (x f : Str) (m : M Fl) : M Fl := fun dr => match m dr with
  | .bad => .bad
  | .exc e dr => match G.sub e.cls x with
    | some true => if e.at_.isNone then (ofO (G.flg f e.cls) dr).bind fun d dr => .ok (.rt d) dr else .bad
    | some false => .exc e dr
    | none => .bad
  | .ok f dr => .ok f dr
def kB (G : Cfg) : CS → Env → {ρ : Type} → (Env → M ρ) → (Env → M ρ) → (Env → M ρ) → (D → M ρ) → M ρ
  | .done, env, _, nx, ct, bk, rt => nx env
  | .ex e k, env, _, nx, ct, bk, rt => kE G e false env fun _ => kB G k env nx ct bk rt
  | .asg p e k, env, _, nx, ct, bk, rt => kE G e false env fun d => kP p d env fun env => kB G k env nx ct bk rt
  | .own i e k, env, _, nx, ct, bk, rt => kE G e false env fun d => kO (freshD d) fun d => kO (setSl env i (.own d)) fun env => kB G k env nx ct bk rt
  | .par i j a b k, env, _, nx, ct, bk, rt => kE G a false env fun x => kE G b false env fun y => kO (setSl env i (.val x)) fun env => kO (setSl env j (.val y)) fun env => kB G k env nx ct bk rt
  | .aug i o e k, env, _, nx, ct, bk, rt => kO (varS (get env i)) fun x => kE G e false env fun y => kO (augD o x y) fun z => kO (setSl env i (.val z)) fun env => kB G k env nx ct bk rt
  | .app i e k, env, _, nx, ct, bk, rt => kO (slD? (get env i)) fun o => kO (lstD o) fun ds => kE G e false env fun d => kO (snocL ds d) fun o => kB G k (env.set i (.own o)) nx ct bk rt
  | .ext i e k, env, _, nx, ct, bk, rt => kO (slD? (get env i)) fun o => kO (lstD o) fun _ => kE G e false env fun d => kO (extD o d) fun o => kO (setSl env i (.own o)) fun env => kB G k env nx ct bk rt
  | .setI i x e k, env, _, nx, ct, bk, rt => kE G e false env fun d => kO (slD? (get env i)) fun o => kE G x true env fun y => kO (setD o y d) fun o => kO (setSl env i (.own o)) fun env => kB G k env nx ct bk rt
  | .augI i op x e k, env, _, nx, ct, bk, rt => kE G x true env fun y => kO (slD? (get env i)) fun o => kO (ixD o y) fun u => kE G e false env fun w => kO (augD op u w) fun d => kO (slD? (get env i)) fun o => kO (setD o y d) fun o => kO (setSl env i (.own o)) fun env => kB G k env nx ct bk rt
  | .popS p i k, env, _, nx, ct, bk, rt => kO (slD? (get env i)) fun o => kO (popD o) fun q => kO (setSl env i (.own q.2)) fun env => kP p q.1 env fun env => kB G k env nx ct bk rt
  | .popD p i x k, env, _, nx, ct, bk, rt => kE G x true env fun y => kO (slD? (get env i)) fun o => kO (popKD o y) fun q => kO (setSl env i (.own q.2)) fun env => kP p q.1 env fun env => kB G k env nx ct bk rt
  | .wip i k, env, _, nx, ct, bk, rt => kB G k (env.set i .no) nx ct bk rt
  | .parO is es k, env, _, nx, ct, bk, rt => kLo G is es env fun ds => kSet is ds env fun env => kB G k env nx ct bk rt
  | .frz i k, env, _, nx, ct, bk, rt => kO (frzS (get env i)) fun s => kO (setSl env i s) fun env => kB G k env nx ct bk rt
  | .ifs c a b k, env, _, nx, ct, bk, rt => kC G c env fun t => sel t (kB G a env (fun env => kB G k env nx ct bk rt) ct bk rt) (kB G b env (fun env => kB G k env nx ct bk rt) ct bk rt)
  | .for_ p it body k, env, _, nx, ct, bk, rt => kI G it false env fun xs => forK (fun d env nx bk => kP p d env fun env => kB G body env nx nx bk rt) xs env fun env => kB G k env nx ct bk rt
  | .whl c body k, env, _, nx, ct, bk, rt => whlK (fun env k => kC G c env k) (fun env nx bk => kB G body env nx nx bk rt) G.fuel env fun env => kB G k env nx ct bk rt
  | .brk, env, _, nx, ct, bk, rt => bk env
  | .cnt, env, _, nx, ct, bk, rt => ct env
  | .ret e, env, _, nx, ct, bk, rt => kE G e false env rt
  | .ret0, _, _, nx, ct, bk, rt => rt .non
  | .rse x .nil, _, _, nx, ct, bk, rt => thr ⟨x, none⟩
  | .rse x (.cons e .nil), env, _, nx, ct, bk, rt => kE G e false env fun d => thr ⟨x, some d⟩
  | .tryF x f _ body k, env, _, nx, ct, bk, rt => hd (tryM G x f (kB G body env (fun e => ret (.nx e)) (fun e => ret (.ct e)) (fun e => ret (.bk e)) (fun d => ret (.rt d)))) (fun env => kB G k env nx ct bk rt) ct bk rt
  | c, env, _, nx, ct, bk, rt => hd (evB G c env) nx ct bk rt
theorem hd_ret (m : M Fl) : hd m (fun e => ret (.nx e)) (fun e => ret (.ct e)) (fun e => ret (.bk e)) (fun d => ret (.rt d)) = m := by
  refine (bnd_ext rfl fun f => ?_).trans (ret_bnd m)
  cases f <;> rfl
theorem kB_eq (G : Cfg) : ∀ (c : CS) (env : Env) {ρ : Type} (nx ct bk : Env → M ρ) (rt : D → M ρ), kB G c env nx ct bk rt = hd (evB G c env) nx ct bk rt
  | .done, env, ρ, nx, ct, bk, rt => Eq.trans rfl rfl
  | .ex e k, env, ρ, nx, ct, bk, rt => by
    rw [kB, kE_eq]
    exact ((hd_rb (evE G e false env) _ nx ct bk rt).trans (bnd_ext rfl fun d => (kB_eq G k env nx ct bk rt).symm)).symm
  | .asg p e k, env, ρ, nx, ct, bk, rt => by
    rw [kB, kE_eq]
    refine ((hd_rb (evE G e false env) _ nx ct bk rt).trans (bnd_ext rfl fun d => ?_)).symm
    rw [kP_eq]
    exact (hd_op _ _ nx ct bk rt).trans (kO_ext rfl fun env => (kB_eq G k env nx ct bk rt).symm)
  | .own i e k, env, ρ, nx, ct, bk, rt => by
    rw [kB, kE_eq]
    refine ((hd_rb (evE G e false env) _ nx ct bk rt).trans (bnd_ext rfl fun d => ?_)).symm
    refine (hd_op _ _ nx ct bk rt).trans ?_
    rw [kO_bind]
    exact kO_ext rfl fun d => kO_ext rfl fun env => (kB_eq G k env nx ct bk rt).symm
  | .par i j a b k, env, ρ, nx, ct, bk, rt => by
    rw [kB, kE_eq]
    refine ((hd_rb (evE G a false env) _ nx ct bk rt).trans (bnd_ext rfl fun x => ?_)).symm
    rw [kE_eq]
    refine (hd_rb (evE G b false env) _ nx ct bk rt).trans (bnd_ext rfl fun y => ?_)
    refine (hd_op _ _ nx ct bk rt).trans ?_
    rw [kO_bind]
    exact kO_ext rfl fun d => kO_ext rfl fun env => (kB_eq G k env nx ct bk rt).symm
  | .aug i o e k, env, ρ, nx, ct, bk, rt => by
    rw [kB]
    refine ((hd_op (varS (get env i)) _ nx ct bk rt).trans (kO_ext rfl fun x => ?_)).symm
    rw [kE_eq]
    refine (hd_rb (evE G e false env) _ nx ct bk rt).trans (bnd_ext rfl fun y => ?_)
    refine (hd_op _ _ nx ct bk rt).trans ?_
    rw [kO_bind]
    exact kO_ext rfl fun d => kO_ext rfl fun env => (kB_eq G k env nx ct bk rt).symm
  | .app i e k, env, ρ, nx, ct, bk, rt => by
    rw [kB]
    show _ = hd (fun dr => match get env i with
      | .own (.lst ds) => (evE G e false env dr).bind fun d dr => (ofO (grd (decide (ds.length < sizeLine)) (env.set i (.own (.lst (ds ++ [d]))))) dr).bind fun env dr => evB G k env dr
      | _ => .bad) nx ct bk rt
    cases get env i with
    | no => rfl
    | val d => rfl
    | own o =>
      cases o with
      | lst ds =>
        show kE G e false env _ = _
        rw [kE_eq]
        refine ((hd_rb (evE G e false env) _ nx ct bk rt).trans (bnd_ext rfl fun d => ?_)).symm
        refine (hd_op _ _ nx ct bk rt).trans ?_
        unfold snocL grd
        split
        · exact (kB_eq G k _ nx ct bk rt).symm
        · rfl
      | _ => rfl
  | .ext i e k, env, ρ, nx, ct, bk, rt => by
    rw [kB]
    refine ((hd_op (slD? (get env i)) _ nx ct bk rt).trans ?_).symm
    cases hs : slD? (get env i) with
    | none => rfl
    | some o =>
      rw [kO_some, kO_some]
      refine (hd_op (lstD o) _ nx ct bk rt).trans (kO_ext rfl fun _ => ?_)
      rw [kE_eq]
      refine ((hd_rb (evE G e false env) _ nx ct bk rt).trans (bnd_ext rfl fun d => ?_))
      refine (hd_op _ _ nx ct bk rt).trans ?_
      rw [extS_eq, kO_bind, kO_bind, hs, kO_some, kO_map]
      exact kO_ext rfl fun d => kO_ext rfl fun env => (kB_eq G k env nx ct bk rt).symm
  | .setI i x e k, env, ρ, nx, ct, bk, rt => by
    rw [kB, kE_eq]
    refine ((hd_rb (evE G e false env) _ nx ct bk rt).trans (bnd_ext rfl fun d => ?_)).symm
    refine (hd_op (slD? (get env i)) _ nx ct bk rt).trans ?_
    cases hs : slD? (get env i) with
    | none => rfl
    | some o =>
      rw [kO_some, kO_some, kE_eq]
      refine (hd_rb (evE G x true env) _ nx ct bk rt).trans (bnd_ext rfl fun y => ?_)
      refine (hd_op _ _ nx ct bk rt).trans ?_
      rw [setS_eq, kO_bind, kO_bind, hs, kO_some, kO_map]
      exact kO_ext rfl fun d => kO_ext rfl fun env => (kB_eq G k env nx ct bk rt).symm
  | .augI i op x e k, env, ρ, nx, ct, bk, rt => by
    rw [kB, kE_eq]
    refine ((hd_rb (evE G x true env) _ nx ct bk rt).trans (bnd_ext rfl fun y => ?_)).symm
    refine (hd_op _ _ nx ct bk rt).trans ?_
    rw [kO_bind]
    refine kO_ext rfl fun o => kO_ext rfl fun u => ?_
    rw [kE_eq]
    refine (hd_rb (evE G e false env) _ nx ct bk rt).trans (bnd_ext rfl fun w => ?_)
    refine (hd_op _ _ nx ct bk rt).trans ?_
    rw [kO_bind]
    refine kO_ext rfl fun d => ?_
    rw [setS_eq, kO_bind, kO_bind]
    refine kO_ext rfl fun o => ?_
    rw [kO_map]
    exact kO_ext rfl fun d => kO_ext rfl fun env => (kB_eq G k env nx ct bk rt).symm
  | .popS p i k, env, ρ, nx, ct, bk, rt => by
    rw [kB]
    refine ((hd_op (popS (get env i)) _ nx ct bk rt).trans ?_).symm
    rw [popS_eq, kO_bind]
    refine kO_ext rfl fun o => ?_
    rw [kO_map]
    refine kO_ext rfl fun q => ?_
    refine (hd_op _ _ nx ct bk rt).trans ?_
    rw [kO_bind]
    refine kO_ext rfl fun env => ?_
    rw [kP_eq]
    exact kO_ext rfl fun env => (kB_eq G k env nx ct bk rt).symm
  | .popD p i x k, env, ρ, nx, ct, bk, rt => by
    rw [kB, kE_eq]
    refine ((hd_rb (evE G x true env) _ nx ct bk rt).trans (bnd_ext rfl fun y => ?_)).symm
    refine (hd_op _ _ nx ct bk rt).trans ?_
    rw [popDS_eq, kO_bind]
    refine kO_ext rfl fun o => ?_
    rw [kO_map]
    refine kO_ext rfl fun q => ?_
    refine (hd_op _ _ nx ct bk rt).trans ?_
    rw [kO_bind]
    refine kO_ext rfl fun env => ?_
    rw [kP_eq]
    exact kO_ext rfl fun env => (kB_eq G k env nx ct bk rt).symm
  | .wip i k, env, ρ, nx, ct, bk, rt => kB_eq G k (env.set i .no) nx ct bk rt
  | .parO is es k, env, ρ, nx, ct, bk, rt => by
    rw [kB, kLo_eq]
    refine ((hd_rb (evLo G is es env) _ nx ct bk rt).trans (bnd_ext rfl fun ds => ?_)).symm
    rw [kSet_eq]
    exact (hd_op _ _ nx ct bk rt).trans (kO_ext rfl fun env => (kB_eq G k env nx ct bk rt).symm)
  | .frz i k, env, ρ, nx, ct, bk, rt => by
    rw [kB]
    refine ((hd_op _ _ nx ct bk rt).trans ?_).symm
    rw [kO_bind]
    exact kO_ext rfl fun s => kO_ext rfl fun env => (kB_eq G k env nx ct bk rt).symm
  | .ifs c a b k, env, ρ, nx, ct, bk, rt => by
    rw [kB, kC_eq]
    refine ((hd_rb (evT G c env) _ nx ct bk rt).trans (bnd_ext rfl fun t => ?_)).symm
    rw [kB_eq G a, kB_eq G b]
    have e1 : (fun env => kB G k env nx ct bk rt) = fun env => hd (evB G k env) nx ct bk rt := funext fun env => kB_eq G k env nx ct bk rt
    rw [e1]
    cases t with
    | true => exact hd_next (evB G a env) (evB G k) nx ct bk rt
    | false => exact hd_next (evB G b env) (evB G k) nx ct bk rt
  | .for_ p it body k, env, ρ, nx, ct, bk, rt => by
    rw [kB, kI_eq]
    refine ((hd_rb (evI G it false env) _ nx ct bk rt).trans (bnd_ext rfl fun xs => ?_)).symm
    refine (hd_next (fun dr => forL (fun d env dr => (ofO (asgP p d env) dr).bind fun env dr => evB G body env dr) xs env dr) (evB G k) nx ct bk rt).trans ?_
    have e1 : (fun env => kB G k env nx ct bk rt) = fun env => hd (evB G k env) nx ct bk rt := funext fun env => kB_eq G k env nx ct bk rt
    rw [hd_for, e1]
    refine congrArg (fun b => forK b xs env _) ?_
    funext d env nx bk
    rw [kP_eq]
    exact (hd_op _ _ nx nx bk rt).trans (kO_ext rfl fun env => (kB_eq G body env nx nx bk rt).symm)
  | .whl c body k, env, ρ, nx, ct, bk, rt => by
    rw [kB]
    refine ((hd_next (fun dr => whlL (evT G c) (evB G body) G.fuel env dr) (evB G k) nx ct bk rt).trans ?_).symm
    have e1 : (fun env => kB G k env nx ct bk rt) = fun env => hd (evB G k env) nx ct bk rt := funext fun env => kB_eq G k env nx ct bk rt
    have e2 : (fun (env : Env) (k : Bool → M ρ) => kC G c env k) = fun env k => bnd (evT G c env) k := by funext env k; exact kC_eq G c env k
    have e3 : (fun (env : Env) (nx bk : Env → M ρ) => kB G body env nx nx bk rt) = fun env nx bk => hd (evB G body env) nx nx bk rt := by funext env nx bk; exact kB_eq G body env nx nx bk rt
    rw [hd_whl, e1, e2, e3]
  | .brk, env, ρ, nx, ct, bk, rt => Eq.trans rfl rfl
  | .cnt, env, ρ, nx, ct, bk, rt => Eq.trans rfl rfl
  | .ret e, env, ρ, nx, ct, bk, rt => by
    rw [kB, kE_eq]
    exact ((hd_rb (evE G e false env) (fun d dr => .ok (.rt d) dr) nx ct bk rt).trans (bnd_ext rfl fun d => rfl)).symm
  | .ret0, env, ρ, nx, ct, bk, rt => Eq.trans rfl rfl
  | .rse x e, env, ρ, nx, ct, bk, rt => by
    cases e with
    | nil => rfl
    | cons e es =>
      cases es with
      | nil =>
        rw [kB, kE_eq]
        exact ((hd_rb (evE G e false env) (fun d dr => .exc ⟨x, some d⟩ dr) nx ct bk rt).trans (bnd_ext rfl fun d => rfl)).symm
      | _ => rfl
    | _ => rfl
  | .tryF x f i body k, env, ρ, nx, ct, bk, rt => by
    rw [kB, kB_eq G body, hd_ret]
    have e1 : (fun env => kB G k env nx ct bk rt) = fun env => hd (evB G k env) nx ct bk rt := funext fun env => kB_eq G k env nx ct bk rt
    rw [e1]
    funext dr
    show Res.bind (tryM G x f (evB G body env) dr) _ = Res.bind (match evB G body env dr with
      | .bad => Res.bad
      | .exc e dr => match G.sub e.cls x with
        | some true => if e.at_.isNone then (ofO (G.flg f e.cls) dr).bind fun d dr => .ok (.rt d) dr else .bad
        | some false => .exc e dr
        | none => .bad
      | .ok f dr => match f with
        | .nx env => evB G k env dr
        | f => .ok f dr) _
    unfold tryM
    cases evB G body env dr with
    | bad => rfl
    | ok fl dr => cases fl <;> rfl
    | exc e dr =>
      dsimp only
      cases G.sub e.cls x with
      | none => rfl
      | some b =>
        cases b with
        | false => rfl
        | true =>
          dsimp only
          split
          · cases G.flg f e.cls <;> rfl
          · rfl
  | .par3 _ _ _ _ _ _ _, env, ρ, nx, ct, bk, rt => Eq.trans rfl rfl
  | .forD _ _ _ _, env, ρ, nx, ct, bk, rt => Eq.trans rfl rfl
  | .dead, env, ρ, nx, ct, bk, rt => Eq.trans rfl rfl
/-- a def called -/
def run (G : Cfg) (n : Nat) (body : CS) (args : List D) : M D := kB G body (args.map .val ++ List.replicate (n - args.length) .no) (fun _ => ret .non) (fun _ => bad) (fun _ => bad) ret
theorem callD_run {G : Cfg} {n : Nat} {body : CS} {args : List D} (h : args.length ≤ n) : (fun dr => callD G n body args dr) = run G n body args := by
  funext dr
  unfold callD
  rw [if_pos h]
  unfold run
  rw [kB_eq]
  show _ = Res.bind _ _
  cases evB G body (args.map .val ++ List.replicate (n - args.length) .no) dr with
  | ok f dr => cases f <;> rfl
  | exc _ _ => rfl
  | bad => rfl
end Cr
/-! Loops over what is carried. -/
namespace Cr
open PySem
section
variable {σ ρ : Type}
def forC (b : D → σ → (σ → M ρ) → (σ → M ρ) → M ρ) : List D → σ → (σ → M ρ) → M ρ
  | [], s, k => k s
  | d :: ds, s, k => b d s (fun s => forC b ds s k) k
theorem forC_nil (b : D → σ → (σ → M ρ) → (σ → M ρ) → M ρ) (s : σ) (k : σ → M ρ) : forC b [] s k = k s := Eq.trans rfl rfl
theorem forC_cons (b : D → σ → (σ → M ρ) → (σ → M ρ) → M ρ) (d : D) (ds : List D) (s : σ) (k : σ → M ρ) : forC b (d :: ds) s k = b d s (fun s => forC b ds s k) k := Eq.trans rfl rfl
theorem forC_eq {B : D → Env → (Env → M ρ) → (Env → M ρ) → M ρ} {b : D → σ → (σ → M ρ) → (σ → M ρ) → M ρ} (emb : σ → Env) (h : ∀ d s nx bk, B d (emb s) nx bk = b d s (fun s => nx (emb s)) (fun s => bk (emb s))) :
    ∀ (xs : List D) (s : σ) (K : Env → M ρ), forK B xs (emb s) K = forC b xs s (fun s => K (emb s))
  | [], s, K => Eq.trans rfl rfl
  | d :: ds, s, K => by
    show B d (emb s) (fun env => forK B ds env K) K = b d s (fun s => forC b ds s (fun s => K (emb s))) (fun s => K (emb s))
    rw [h]
    congr 1
    funext s
    exact forC_eq emb h ds s K
def whlC (c : σ → (Bool → M ρ) → M ρ) (b : σ → (σ → M ρ) → (σ → M ρ) → M ρ) : Nat → σ → (σ → M ρ) → M ρ
  | 0, _, _ => bad
  | n + 1, s, k => c s fun t => sel t (b s (fun s => whlC c b n s k) k) (k s)
theorem whlC_succ (c : σ → (Bool → M ρ) → M ρ) (b : σ → (σ → M ρ) → (σ → M ρ) → M ρ) (n : Nat) (s : σ) (k : σ → M ρ) : whlC c b (n + 1) s k = c s fun t => sel t (b s (fun s => whlC c b n s k) k) (k s) := Eq.trans rfl rfl
theorem whlC_eq {C : Env → (Bool → M ρ) → M ρ} {c : σ → (Bool → M ρ) → M ρ} {B : Env → (Env → M ρ) → (Env → M ρ) → M ρ} {b : σ → (σ → M ρ) → (σ → M ρ) → M ρ} (emb : σ → Env) (hc : ∀ s k, C (emb s) k = c s k) (h : ∀ s nx bk, B (emb s) nx bk = b s (fun s => nx (emb s)) (fun s => bk (emb s))) :
    ∀ (n : Nat) (s : σ) (K : Env → M ρ), whlK C B n (emb s) K = whlC c b n s (fun s => K (emb s))
  | 0, s, K => Eq.trans rfl rfl
  | n + 1, s, K => by
    show C (emb s) (fun t => sel t (B (emb s) (fun env => whlK C B n env K) K) (K (emb s))) = c s fun t => sel t (b s (fun s => whlC c b n s (fun s => K (emb s))) (fun s => K (emb s))) (K (emb s))
    rw [hc, h]
    have e : (fun s => whlK C B n (emb s) K) = fun s => whlC c b n s (fun s => K (emb s)) := funext fun s => whlC_eq emb hc h n s K
    rw [e]
end
def dlenM : M D := fun dr => .ok (.int dr.length) dr
def dpopS (s : Sl) : M D := fun dr => match s, dr with
  | .val .drw, x :: r => .ok (.int x) r
  | _, _ => .bad
def dpopM : M D := dpopS (.val .drw)
theorem dpop_cons (x : Int) (r : List Int) : dpopM (x :: r) = .ok (.int x) r := Eq.trans rfl rfl
end Cr
/-! Rows of the operators, and how plain forms are reasoned about. -/
namespace Cr
open PySem
theorem eqD_int (i j : Int) : eqD (.int i) (.int j) = some (i == j) := by
  show grd (SeqAt.shaped (.int i) && SeqAt.shaped (.int j)) (PyData.eqv (.int i) (.int j)) = _
  rfl
theorem sh_str (x : Str) (h : PyData.strOk x = true) : SeqAt.shaped (.str x) = true := by
  unfold SeqAt.shaped
  rw [PyData.canLay0, PyData.depth, h]
  rfl
theorem eqD_str (x y : Str) (h1 : PyData.strOk x = true) (h2 : PyData.strOk y = true) : eqD (.str x) (.str y) = some (x == y) := by
  show grd (SeqAt.shaped (.str x) && SeqAt.shaped (.str y)) (PyData.eqv (.str x) (.str y)) = _
  rw [sh_str x h1, sh_str y h2, PyData.eqv]
  rfl
theorem eqD_bl (x y : Bool) : eqD (.bl x) (.bl y) = some (x == y) := by
  show grd (SeqAt.shaped (.bool x) && SeqAt.shaped (.bool y)) (PyData.eqv (.bool x) (.bool y)) = _
  rfl
theorem atI_nat {α : Type} (l : List α) (i : Nat) (h : i < l.length) : L2.atI l (i : Nat) = some l[i] := by
  unfold L2.atI L2.ixN
  rw [if_pos (by omega), if_pos (by omega)]
  show l[(i : Int).toNat]? = _
  rw [Int.toNat_natCast, List.getElem?_eq_getElem h]
theorem cut_drop {α : Type} (l : List α) (i : Nat) : cut l (some (i : Int)) none = l.drop i := by
  unfold cut
  rw [HT.sIx_nat, HT.sIx_none, List.take_of_length_le (by rw [List.length_drop]; omega)]
  by_cases h : i ≤ l.length
  · rw [Nat.min_eq_left h]
  · rw [Nat.min_eq_right (by omega), List.drop_length, List.drop_of_length_le (by omega)]
theorem cut_take {α : Type} (l : List α) (i : Nat) : cut l none (some (i : Int)) = l.take i := by
  unfold cut
  rw [HT.sIx_nat, HT.sIx_none, List.drop_zero, Nat.sub_zero]
  by_cases h : i ≤ l.length
  · rw [Nat.min_eq_left h]
  · rw [Nat.min_eq_right (by omega), List.take_length, List.take_of_length_le (by omega)]
section rows
variable {α : Type}
theorem grd_t (a : α) : grd true a = some a := Eq.trans rfl rfl
theorem grd_f (a : α) : grd false a = none := Eq.trans rfl rfl
variable (i j : Int) (a b : Bool) (s t : Str) (xs ys : List D) (x y : D)
theorem o_add : binD .add (.int i) (.int j) = some (.int (i + j)) := Eq.trans rfl rfl
theorem o_sub : binD .sub (.int i) (.int j) = some (.int (i - j)) := Eq.trans rfl rfl
theorem o_mul : binD .mul (.int i) (.int j) = grd (mulOk i j) (.int (i * j)) := Eq.trans rfl rfl
theorem o_div : binD .fdiv (.int i) (.int j) = grd (divOk j) (.int (i / j)) := Eq.trans rfl rfl
theorem o_mod : binD .mod (.int i) (.int j) = grd (decide (0 < j)) (.int (i % j)) := Eq.trans rfl rfl
theorem o_pow : binD .pow (.int i) (.int j) = grd (powOk i j) (.int (i ^ j.toNat)) := Eq.trans rfl rfl
theorem o_addL : binD .add (.lst xs) (.lst ys) = grd (szOk (xs.length + ys.length)) (.lst (xs ++ ys)) := Eq.trans rfl rfl
theorem o_addT : binD .add (.tup xs) (.tup ys) = grd (szOk (xs.length + ys.length)) (.tup (xs ++ ys)) := Eq.trans rfl rfl
theorem o_addS : binD .add (.str s) (.str t) = grd (szOk (s.length + t.length)) (.str (s ++ t)) := Eq.trans rfl rfl
theorem o_mulL : binD .mul (.lst xs) (.int j) = grd (decide (-(2 ^ 63) ≤ j ∧ j < 2 ^ 63) && szOk (xs.length * j.toNat)) (.lst (List.replicate j.toNat xs).flatten) := Eq.trans rfl rfl
theorem o_neg : negD (.int i) = some (.int (-i)) := Eq.trans rfl rfl
theorem o_not : notD (.bl a) = some (.bl (!a)) := Eq.trans rfl rfl
theorem o_blD : blD (.bl a) = some a := Eq.trans rfl rfl
theorem o_asI : asI (.int i) = some i := Eq.trans rfl rfl
theorem o_truB : D.tru (.bl a) = some a := Eq.trans rfl rfl
theorem o_truI : D.tru (.int i) = some (i != 0) := Eq.trans rfl rfl
theorem o_lt : cmpD .lt (.int i) (.int j) = some (decide (i < j)) := Eq.trans rfl rfl
theorem o_le : cmpD .le (.int i) (.int j) = some (decide (i ≤ j)) := Eq.trans rfl rfl
theorem o_gt : cmpD .gt (.int i) (.int j) = some (decide (j < i)) := Eq.trans rfl rfl
theorem o_ge : cmpD .ge (.int i) (.int j) = some (decide (j ≤ i)) := Eq.trans rfl rfl
theorem o_eqI : cmpD .eq (.int i) (.int j) = some (decide (i = j)) := (eqD_int i j).trans (by rw [Bool.beq_eq_decide_eq])
theorem o_neI : cmpD .ne (.int i) (.int j) = some (!decide (i = j)) := by
  show (eqD (.int i) (.int j)).map _ = _
  rw [eqD_int, Bool.beq_eq_decide_eq]
  rfl
theorem o_is : cmpD .is (.bl a) (.bl b) = some (decide (a = b)) := Eq.trans rfl rfl
theorem o_isnot : cmpD .isnot (.bl a) (.bl b) = some (!decide (a = b)) := Eq.trans rfl rfl
theorem o_neB : cmpD .ne (.bl a) (.bl b) = some (!decide (a = b)) := by cases a <;> cases b <;> kernel_rfl
theorem o_eqB : cmpD .eq (.bl a) (.bl b) = some (decide (a = b)) := by cases a <;> cases b <;> kernel_rfl
theorem o_lenT : bltD .len [.tup xs] = some (.int xs.length) := Eq.trans rfl rfl
theorem o_lenL : bltD .len [.lst xs] = some (.int xs.length) := Eq.trans rfl rfl
theorem o_lenS : bltD .len [.str s] = grd (szOk s.length) (.int s.length) := Eq.trans rfl rfl
theorem o_abs : bltD .abs [.int i] = some (.int (if i < 0 then -i else i)) := Eq.trans rfl rfl
theorem o_max : bltD .max [.int i, .int j] = some (.int (if j > i then j else i)) := Eq.trans rfl rfl
theorem o_min : bltD .min [.int i, .int j] = some (.int (if j < i then j else i)) := Eq.trans rfl rfl
theorem o_int : bltD .int [.int i] = some (.int i) := Eq.trans rfl rfl
theorem o_intB : bltD .int [.bl a] = some (.int (if a then 1 else 0)) := Eq.trans rfl rfl
theorem o_lstL : bltD .list [.lst xs] = some (.lst xs) := Eq.trans rfl rfl
theorem o_lstT : bltD .list [.tup xs] = some (.lst xs) := Eq.trans rfl rfl
theorem o_tupL : bltD .tuple [.lst xs] = some (.tup xs) := Eq.trans rfl rfl
theorem o_tupT : bltD .tuple [.tup xs] = some (.tup xs) := Eq.trans rfl rfl
theorem o_isiN (t : Ty) : isiD t .non = some false := Eq.trans rfl rfl
theorem o_isiB (t : Ty) : isiD t (.bl a) = some (t == .bool || t == .int) := Eq.trans rfl rfl
theorem o_isiI (t : Ty) : isiD t (.int i) = some (t == .int) := Eq.trans rfl rfl
theorem o_isiS (t : Ty) : isiD t (.str s) = some (t == .str) := Eq.trans rfl rfl
theorem o_isiT (t : Ty) : isiD t (.tup xs) = some (t == .tuple) := Eq.trans rfl rfl
theorem o_isiL (t : Ty) : isiD t (.lst xs) = some (t == .list) := Eq.trans rfl rfl
theorem ty_bb : (Ty.bool == Ty.bool) = true := by decide
theorem ty_bi : (Ty.bool == Ty.int) = false := by decide
theorem ty_bs : (Ty.bool == Ty.str) = false := by decide
theorem ty_bt : (Ty.bool == Ty.tuple) = false := by decide
theorem ty_bl : (Ty.bool == Ty.list) = false := by decide
theorem ty_ib : (Ty.int == Ty.bool) = false := by decide
theorem ty_ii : (Ty.int == Ty.int) = true := by decide
theorem ty_is : (Ty.int == Ty.str) = false := by decide
theorem ty_it : (Ty.int == Ty.tuple) = false := by decide
theorem ty_il : (Ty.int == Ty.list) = false := by decide
theorem ty_sb : (Ty.str == Ty.bool) = false := by decide
theorem ty_si : (Ty.str == Ty.int) = false := by decide
theorem ty_ss : (Ty.str == Ty.str) = true := by decide
theorem ty_st : (Ty.str == Ty.tuple) = false := by decide
theorem ty_sl : (Ty.str == Ty.list) = false := by decide
theorem ty_tb : (Ty.tuple == Ty.bool) = false := by decide
theorem ty_ti : (Ty.tuple == Ty.int) = false := by decide
theorem ty_ts : (Ty.tuple == Ty.str) = false := by decide
theorem ty_tt : (Ty.tuple == Ty.tuple) = true := by decide
theorem ty_tl : (Ty.tuple == Ty.list) = false := by decide
theorem ty_lb : (Ty.list == Ty.bool) = false := by decide
theorem ty_li : (Ty.list == Ty.int) = false := by decide
theorem ty_ls : (Ty.list == Ty.str) = false := by decide
theorem ty_lt : (Ty.list == Ty.tuple) = false := by decide
theorem ty_ll : (Ty.list == Ty.list) = true := by decide
theorem ty_db : (Ty.dict == Ty.bool) = false := by decide
theorem ty_di : (Ty.dict == Ty.int) = false := by decide
theorem ty_ds : (Ty.dict == Ty.str) = false := by decide
theorem ty_dt : (Ty.dict == Ty.tuple) = false := by decide
theorem ty_dl : (Ty.dict == Ty.list) = false := by decide
theorem o_ixT : ixD (.tup xs) (.int i) = L2.atI xs i := Eq.trans rfl rfl
theorem o_ixL : ixD (.lst xs) (.int i) = L2.atI xs i := Eq.trans rfl rfl
theorem o_itT : iterD (.tup xs) = some xs := Eq.trans rfl rfl
theorem o_itL : iterD (.lst xs) = some xs := Eq.trans rfl rfl
theorem o_unT : unD (.tup xs) = some xs := Eq.trans rfl rfl
theorem o_unL : unD (.lst xs) = some xs := Eq.trans rfl rfl
theorem o_seqT : seqD (.tup xs) = some xs := Eq.trans rfl rfl
theorem o_seqL : seqD (.lst xs) = some xs := Eq.trans rfl rfl
theorem o_lstD : lstD (.lst xs) = some xs := Eq.trans rfl rfl
theorem o_snoc : snocL xs x = grd (decide (xs.length < sizeLine)) (.lst (xs ++ [x])) := Eq.trans rfl rfl
theorem o_mkL : mkL xs = grd (szOk xs.length) (.lst xs) := Eq.trans rfl rfl
theorem o_mkT : mkT xs = grd (szOk xs.length) (.tup xs) := Eq.trans rfl rfl
theorem o_rev : lrevD (.lst xs) = some (.lst xs.reverse) := Eq.trans rfl rfl
theorem o_slL (lo hi : Option Int) : slD (.lst xs) lo hi = some (.lst (cut xs lo hi)) := Eq.trans rfl rfl
theorem o_slT (lo hi : Option Int) : slD (.tup xs) lo hi = some (.tup (cut xs lo hi)) := Eq.trans rfl rfl
theorem isN_non : isNone .non = true := Eq.trans rfl rfl
theorem isN_int : isNone (.int i) = false := Eq.trans rfl rfl
theorem isN_bl : isNone (.bl a) = false := Eq.trans rfl rfl
theorem isN_str : isNone (.str s) = false := Eq.trans rfl rfl
theorem isN_tup : isNone (.tup xs) = false := Eq.trans rfl rfl
theorem isN_lst : isNone (.lst xs) = false := Eq.trans rfl rfl
theorem o_augA : augD .add (.int i) (.int j) = some (.int (i + j)) := Eq.trans rfl rfl
theorem o_augS : augD .sub (.int i) (.int j) = some (.int (i - j)) := Eq.trans rfl rfl
theorem o_sum (is : List Int) : bltD .sum [.lst (is.map .int)] = some (.int is.sum) := by
  show (intsOf (is.map D.int)).map _ = _
  rw [ints_map]
  rfl
theorem o_maxL (is : List Int) : bltD .max [.lst (is.map .int)] = (maxI is).map D.int := by
  show (match intsOf (is.map D.int) with
    | some is => (maxI is).map D.int
    | none => maxG _) = _
  rw [ints_map]
theorem bls_map (bs : List Bool) : blsOf (bs.map .bl) = some bs := by
  induction bs with
  | nil => rfl
  | cons b bs ih =>
    show (blsOf (bs.map D.bl)).map _ = _
    rw [ih]
    rfl
theorem o_all (bs : List Bool) : bltD .all [.lst (bs.map .bl)] = some (.bl (bs.all id)) := by
  show (blsOf (bs.map D.bl)).map _ = _
  rw [bls_map]
  rfl
end rows
theorem sz_ok {n : Nat} (h : n ≤ 16777216) : szOk n = true := by
  unfold szOk
  rw [sizeLine_eq]
  exact decide_eq_true (by omega)
theorem mul_ok {i j : Int} (h : -(2 ^ 64) < j ∧ j < 2 ^ 64) : mulOk i j = true := by
  unfold mulOk
  rw [decide_eq_true h]
  simp
theorem mul_ok' {i j : Int} (h : -(2 ^ 64) < i ∧ i < 2 ^ 64) : mulOk i j = true := by
  unfold mulOk
  rw [decide_eq_true h]
  simp
theorem div_ok {j : Int} (h : 0 < j) (h2 : j < 1073741824) : divOk j = true := by
  unfold divOk
  rw [decide_eq_true h, decide_eq_true h2]
  rfl
theorem rng_one {m : Nat} (h2 : m ≤ 16777216) : rngD [.int (m : Int)] = some ((List.range m).map fun (k : Nat) => D.int (k : Int)) := by
  show grd (in62 (m : Int) && szOk (m : Int).toNat) (rngL 0 (m : Int).toNat 1) = _
  rw [Int.toNat_natCast, sz_ok h2]
  have : in62 (m : Int) = true := decide_eq_true ⟨by omega, by omega⟩
  rw [this]
  show some (rngL 0 m 1) = _
  unfold rngL

  refine congrArg some (List.map_congr_left fun k _ => ?_)
  rw [Int.zero_add, Int.mul_one]
theorem atI_ok0 {α : Type} (l : List α) (n : Nat) (h : n < l.length) : L2.atI l (n : Int) = some l[n] := atI_nat l n h
theorem fits {x : Int} (h : -1000000000000000000 ≤ x ∧ x ≤ 1000000000000000000) : Builtin.Range.rangeFitsLong x = true := by
  unfold Builtin.Range.rangeFitsLong
  simp only [Bool.and_eq_true, decide_eq_true_eq]
  omega
theorem rng_three {i j c : Int} {n : Nat} (hc : 0 < c ∧ c < 1000000) (hi : -100000000000000000 ≤ i ∧ i ≤ 100000000000000000) (hj : -100000000000000000 ≤ j ∧ j ≤ 100000000000000000) (hn : Builtin.Range.rangeSize i j c = (n : Int)) (h2 : n ≤ 16777216) :
    rngD [.int i, .int j, .int c] = some ((List.range n).map fun (k : Nat) => D.int (i + (k : Int) * c)) := by
  show grd (decide (c ≠ 0) && decide (c.natAbs < 1073741824) && Builtin.Range.small i j c && szOk (Builtin.Range.rangeSize i j c).toNat) (rngL i (Builtin.Range.rangeSize i j c).toNat c) = _
  have h1 : Builtin.Range.small i j c = true := by
    unfold Builtin.Range.small
    rw [hn, fits (x := i) (by omega), fits (x := j) (by omega), fits (x := c) (by omega), fits (x := (n : Int)) (by omega), if_pos hc.1, fits (x := j + (c - 1)) (by omega)]
    simp
  rw [h1, hn, Int.toNat_natCast, sz_ok h2, decide_eq_true (show c ≠ 0 by omega), decide_eq_true (show c.natAbs < 1073741824 by omega)]
  rfl
theorem at0 {α : Type} (a : α) (l : List α) : L2.atI (a :: l) 0 = some a := atI_ok0 (a :: l) 0 (by simp)
theorem at1 {α : Type} (a b : α) (l : List α) : L2.atI (a :: b :: l) 1 = some b := atI_ok0 (a :: b :: l) 1 (by simp)
theorem at2 {α : Type} (a b c : α) (l : List α) : L2.atI (a :: b :: c :: l) 2 = some c := atI_ok0 (a :: b :: c :: l) 2 (by simp)
theorem at3 {α : Type} (a b c d : α) (l : List α) : L2.atI (a :: b :: c :: d :: l) 3 = some d := atI_ok0 (a :: b :: c :: d :: l) 3 (by simp)
theorem at4 {α : Type} (a b c d e : α) (l : List α) : L2.atI (a :: b :: c :: d :: e :: l) 4 = some e := atI_ok0 (a :: b :: c :: d :: e :: l) 4 (by simp)
theorem at5 {α : Type} (a b c d e f : α) (l : List α) : L2.atI (a :: b :: c :: d :: e :: f :: l) 5 = some f := atI_ok0 (a :: b :: c :: d :: e :: f :: l) 5 (by simp)
theorem hd_ok {ρ : Type} (G : Cfg) (x f : Str) (d : D) (n c b : Env → M ρ) (k : D → M ρ) : hd (tryM G x f (ret (.rt d))) n c b k = k d := Eq.trans rfl rfl
theorem atI_ok {α : Type} (l : List α) (n : Nat) (h : n < l.length) : L2.atI l (n : Int) = some l[n] := atI_nat l n h
theorem atI_map {α β : Type} (f : α → β) (l : List α) (i : Int) : L2.atI (l.map f) i = (L2.atI l i).map f := by
  unfold L2.atI
  rw [List.length_map]
  cases L2.ixN l.length i with
  | none => rfl
  | some j => simp
theorem bnd_dlen {ρ : Type} (f : D → M ρ) (dr : List Int) : bnd dlenM f dr = f (.int dr.length) dr := Eq.trans rfl rfl
theorem bnd_dpop {ρ : Type} (f : D → M ρ) (x : Int) (r : List Int) : bnd dpopM f (x :: r) = f (.int x) r := Eq.trans rfl rfl
section
variable {α β σ : Type}
/-- it ends well, whatever is drawn, and then Q -/
def Ok (m : M α) (Q : α → Prop) : Prop := ∀ dr, ∃ a dr', m dr = .ok a dr' ∧ Q a
theorem Ok.ret {a : α} {Q : α → Prop} (h : Q a) : Ok (Cr.ret a) Q := fun dr => ⟨a, dr, rfl, h⟩
theorem Ok.bnd {m : M α} {f : α → M β} {P : α → Prop} {Q : β → Prop} (h : Ok m P) (k : ∀ a, P a → Ok (f a) Q) : Ok (Cr.bnd m f) Q := fun dr => by
  obtain ⟨a, dr1, e, p⟩ := h dr
  obtain ⟨b, dr2, e2, q⟩ := k a p dr1
  refine ⟨b, dr2, ?_, q⟩
  show (m dr).bind f = _
  rw [e]
  exact e2
theorem Ok.mono {m : M α} {P Q : α → Prop} (h : Ok m P) (k : ∀ a, P a → Q a) : Ok m Q := fun dr => by
  obtain ⟨a, dr1, e, p⟩ := h dr
  exact ⟨a, dr1, e, k a p⟩
theorem Ok.of {m m' : M α} {Q : α → Prop} (e : m = m') (h : Ok m' Q) : Ok m Q := e ▸ h
theorem Ok.for_ {b : D → σ → (σ → M α) → (σ → M α) → M α} {Q : α → Prop} (I : σ → Prop) : ∀ (xs : List D) (s : σ) (k : σ → M α), I s → (∀ d ∈ xs, ∀ s, I s → ∀ nx bk, (∀ s, I s → Ok (nx s) Q) → (∀ s, I s → Ok (bk s) Q) → Ok (b d s nx bk) Q) → (∀ s, I s → Ok (k s) Q) → Ok (forC b xs s k) Q
  | [], s, k, i, h, hk => hk s i
  | d :: ds, s, k, i, h, hk => h d List.mem_cons_self s i _ _ (fun s i => Ok.for_ I ds s k i (fun d hd => h d (List.mem_cons_of_mem _ hd)) hk) hk
/-- a loop that never leaves: a fold -/
theorem forC_fold {b : D → σ → (σ → M α) → (σ → M α) → M α} (f : σ → D → σ) (I : σ → Prop) : ∀ (xs : List D) (s : σ) (k : σ → M α), I s → (∀ d ∈ xs, ∀ s, I s → I (f s d) ∧ ∀ nx bk, b d s nx bk = nx (f s d)) → forC b xs s k = k (xs.foldl f s)
  | [], s, k, i, h => Eq.trans rfl rfl
  | d :: ds, s, k, i, h => by
    obtain ⟨i2, e⟩ := h d List.mem_cons_self s i
    rw [forC_cons, e]
    exact forC_fold f I ds (f s d) k i2 fun d hd => h d (List.mem_cons_of_mem _ hd)
theorem lcL_pure {b : D → M (Option D)} {o : D → Option D} : ∀ (xs : List D) (dr : List Int), (∀ d ∈ xs, b d = ret (o d)) → lcL b xs dr = .ok (xs.filterMap o) dr
  | [], dr, h => Eq.trans rfl rfl
  | d :: ds, dr, h => by
    show (b d dr).bind _ = _
    rw [h d List.mem_cons_self]
    show (lcL b ds dr).bind _ = _
    rw [lcL_pure ds dr fun d hd => h d (List.mem_cons_of_mem _ hd), List.filterMap_cons]
    cases o d <;> rfl
theorem lcM_pure {b : D → M (Option D)} (o : D → Option D) {xs : List D} (h : ∀ d ∈ xs, b d = ret (o d)) : lcM b xs = ret (.lst (xs.filterMap o)) := by
  funext dr
  show noX ((lcL b xs dr).bind _) = _
  rw [lcL_pure xs dr h]
  rfl
theorem filterMap_some' (f : α → β) (l : List α) : l.filterMap (fun x => some (f x)) = l.map f := by
  induction l with
  | nil => rfl
  | cons x l ih => simp [ih]
theorem lcM_map {b : D → M (Option D)} (f : D → D) {xs : List D} (h : ∀ d ∈ xs, b d = ret (some (f d))) : lcM b xs = ret (.lst (xs.map f)) := by
  rw [lcM_pure (fun d => some (f d)) h, filterMap_some']
/-- over a row of typed things -/
theorem lcM_mapT {b : D → M (Option D)} {g : α → D} (f : α → D) {l : List α} (h : ∀ a ∈ l, b (g a) = ret (some (f a))) : lcM b (l.map g) = ret (.lst (l.map f)) := by
  induction l with
  | nil => rfl
  | cons a l ih =>
    funext dr
    show noX (((b (g a) dr).bind _).bind _) = _
    rw [h a List.mem_cons_self]
    have ih := congrFun (ih fun a ha => h a (List.mem_cons_of_mem _ ha)) dr
    have ih : noX ((lcL b (l.map g) dr).bind fun ys dr => .ok (D.lst ys) dr) = .ok (.lst (l.map f)) dr := ih
    show noX (((lcL b (l.map g) dr).bind fun r dr => .ok (f a :: r) dr).bind fun ys dr => .ok (D.lst ys) dr) = _
    cases e : lcL b (l.map g) dr with
    | ok ys dr2 =>
      rw [e] at ih
      cases ih
      rfl
    | exc _ _ => rw [e] at ih; cases ih
    | bad => rw [e] at ih; cases ih
theorem lcM_filT {b : D → M (Option D)} {g : α → D} (p : α → Bool) (f : α → D) {l : List α} (h : ∀ a ∈ l, b (g a) = ret (if p a then some (f a) else none)) : lcM b (l.map g) = ret (.lst ((l.filter p).map f)) := by
  have key : ∀ (l : List α), (∀ a ∈ l, b (g a) = ret (if p a then some (f a) else none)) → ∀ dr, lcL b (l.map g) dr = .ok ((l.filter p).map f) dr := by
    intro l
    induction l with
    | nil => intro _ dr; rfl
    | cons a l ih =>
      intro h dr
      show (b (g a) dr).bind _ = _
      rw [h a List.mem_cons_self]
      show (lcL b (l.map g) dr).bind _ = _
      rw [ih (fun a ha => h a (List.mem_cons_of_mem _ ha)) dr, List.filter_cons]
      cases p a <;> rfl
  funext dr
  show noX ((lcL b (l.map g) dr).bind _) = _
  rw [key l h dr]
  rfl
theorem Ok.lc {b : D → M (Option D)} {P : D → Prop} {xs : List D} (h : ∀ d ∈ xs, Ok (b d) fun o => ∃ y, o = some y ∧ P y) : Ok (lcM b xs) fun r => ∃ ys : List D, r = .lst ys ∧ ys.length = xs.length ∧ ∀ y ∈ ys, P y := by
  have key : ∀ (xs : List D), (∀ d ∈ xs, Ok (b d) fun o => ∃ y, o = some y ∧ P y) → ∀ dr, ∃ ys dr', lcL b xs dr = .ok ys dr' ∧ ys.length = xs.length ∧ ∀ y ∈ ys, P y := by
    intro xs
    induction xs with
    | nil => intro _ dr; exact ⟨[], dr, rfl, rfl, fun y hy => nomatch hy⟩
    | cons x xs ih =>
      intro h dr
      obtain ⟨o, dr1, e1, y, rfl, hy⟩ := h x List.mem_cons_self dr
      obtain ⟨ys, dr2, e2, hl, hys⟩ := ih (fun d hd => h d (List.mem_cons_of_mem _ hd)) dr1
      refine ⟨y :: ys, dr2, ?_, by simp [hl], fun z hz => ?_⟩
      · show (b x dr).bind _ = _
        rw [e1]
        show (lcL b xs dr1).bind _ = _
        rw [e2]
        rfl
      · rcases List.mem_cons.mp hz with rfl | hz
        · exact hy
        · exact hys z hz
  intro dr
  obtain ⟨ys, dr2, e, hl, hy⟩ := key xs h dr
  refine ⟨.lst ys, dr2, ?_, ys, rfl, hl, hy⟩
  show noX ((lcL b xs dr).bind _) = _
  rw [e]
  rfl
/-- a loop with a test, by a measure -/
theorem whlC_run {c : σ → (Bool → M α) → M α} {b : σ → (σ → M α) → (σ → M α) → M α} (k : σ → M α) (f : σ → σ) (t : σ → Bool) (I : σ → Prop) (hc : ∀ s, I s → ∀ K, c s K = K (t s)) (hb : ∀ s, I s → t s = true → I (f s) ∧ ∀ nx bk, b s nx bk = nx (f s)) :
    ∀ (m : Nat) (s : σ) (n : Nat), I s → t (Nat.repeat f m s) = false → (∀ i < m, t (Nat.repeat f i s) = true) → m < n → whlC c b n s k = k (Nat.repeat f m s)
  | 0, s, n + 1, i, h, hl, hn => by
    have h : t s = false := h
    rw [whlC_succ, hc s i, h, sel_f]
    rfl
  | m + 1, s, n + 1, i, h, hl, hn => by
    have h0 : t s = true := hl 0 (by omega)
    obtain ⟨i2, e⟩ := hb s i h0
    rw [whlC_succ, hc s i, h0, sel_t, e]
    have rep : ∀ (m : Nat) (s : σ), Nat.repeat f (m + 1) s = Nat.repeat f m (f s) := by
      intro m
      induction m with
      | zero => intro s; rfl
      | succ m ih => intro s; show f (Nat.repeat f (m + 1) s) = f (Nat.repeat f m (f s)); rw [ih]
    rw [rep] at h ⊢
    exact whlC_run k f t I hc hb m (f s) n i2 h (fun i hi => by rw [← rep]; exact hl (i + 1) (by omega)) (by omega)
/-- a loop that never leaves, told by its turns -/
theorem forC_inv {b : D → σ → (σ → M α) → (σ → M α) → M α} (I : Nat → σ → Prop) : ∀ (xs : List D) (n : Nat) (s : σ) (k : σ → M α), I n s → (∀ i d s, d ∈ xs → i < n + xs.length → I i s → ∃ s', I (i + 1) s' ∧ ∀ nx bk, b d s nx bk = nx s') → ∃ s', I (n + xs.length) s' ∧ forC b xs s k = k s'
  | [], n, s, k, i, h => ⟨s, i, rfl⟩
  | d :: ds, n, s, k, i, h => by
    obtain ⟨s1, i1, e1⟩ := h n d s List.mem_cons_self (by rw [List.length_cons]; omega) i
    obtain ⟨s2, i2, e2⟩ := forC_inv I ds (n + 1) s1 k i1 fun i d s hd hi => h i d s (List.mem_cons_of_mem _ hd) (by rw [List.length_cons]; omega)
    refine ⟨s2, by rw [List.length_cons, show n + (ds.length + 1) = n + 1 + ds.length by omega]; exact i2, ?_⟩
    rw [forC_cons, e1]
    exact e2
/-- the same row of turns, whatever follows -/
theorem forC_all {b : D → σ → (σ → M α) → (σ → M α) → M α} (I : Nat → σ → Prop) : ∀ (xs : List D) (n : Nat) (s : σ), I n s → (∀ i d s, d ∈ xs → i < n + xs.length → I i s → ∃ s', I (i + 1) s' ∧ ∀ nx bk, b d s nx bk = nx s') → ∃ s', I (n + xs.length) s' ∧ ∀ k, forC b xs s k = k s'
  | [], n, s, i, h => ⟨s, i, fun k => rfl⟩
  | d :: ds, n, s, i, h => by
    obtain ⟨s1, i1, e1⟩ := h n d s List.mem_cons_self (by rw [List.length_cons]; omega) i
    obtain ⟨s2, i2, e2⟩ := forC_all I ds (n + 1) s1 i1 fun i d s hd hi => h i d s (List.mem_cons_of_mem _ hd) (by rw [List.length_cons]; omega)
    refine ⟨s2, by rw [List.length_cons, show n + (ds.length + 1) = n + 1 + ds.length by omega]; exact i2, fun k => ?_⟩
    rw [forC_cons, e1]
    exact e2 k
/-- item by item, told apart -/
def AllR (b : D → M (Option D)) : List D → List D → Prop
  | [], [] => True
  | d :: ds, y :: ys => b d = ret (some y) ∧ AllR b ds ys
  | _, _ => False
theorem lcM_list {b : D → M (Option D)} {ds ys : List D} (h : AllR b ds ys) : lcM b ds = ret (.lst ys) := by
  have key : ∀ (ds ys : List D), AllR b ds ys → ∀ dr, lcL b ds dr = .ok ys dr := by
    intro ds
    induction ds with
    | nil =>
      intro ys h dr
      cases ys with
      | nil => rfl
      | cons _ _ => exact h.elim
    | cons d ds ih =>
      intro ys h dr
      cases ys with
      | nil => exact h.elim
      | cons y ys =>
        show (b d dr).bind _ = _
        rw [h.1]
        show (lcL b ds dr).bind _ = _
        rw [ih ys h.2 dr]
        rfl
  funext dr
  show noX ((lcL b ds dr).bind _) = _
  rw [key ds ys h dr]
  rfl
/-- a def's answer, by its plain form -/
theorem callD_of {G : Cfg} {n : Nat} {b : CS} {ds : List D} {m : M D} {d : D} (e : (fun dr => callD G n b ds dr) = m) (h : m = ret d) (dr : List Int) : callD G n b ds dr = .ok d dr := by
  have := congrFun (e.trans h) dr
  exact this
/-- the law's body: it comes to d -/
theorem law_of {G : Cfg} {b : CS} {env : Env} {m : M D} (e : kB G b env (fun _ => ret D.non) (fun _ => bad) (fun _ => bad) ret = m) (h : Ok m fun x => x = .bl true) (dr : List Int) : ∃ dr', evB G b env dr = .ok (.rt (.bl true)) dr' := by
  obtain ⟨a, dr', h1, rfl⟩ := h dr
  refine ⟨dr', ?_⟩
  rw [← e, kB_eq] at h1
  have h2 : (evB G b env dr).bind (fun f => match f with
    | .nx _ => ret D.non
    | .ct _ => bad
    | .bk _ => bad
    | .rt d => ret d) = .ok (.bl true) dr' := h1
  cases q : evB G b env dr with
  | bad => rw [q] at h2; cases h2
  | exc _ _ => rw [q] at h2; cases h2
  | ok f dr1 =>
    rw [q] at h2
    cases f with
    | nx _ => cases h2
    | ct _ => cases h2
    | bk _ => cases h2
    | rt d => cases h2; rfl
end
end Cr
namespace K11
open PySem Cr
def b_is_integer : CS := (.ret (.and (.cons (.isi (.var 0) .int) (.cons (.not (.isi (.var 0) .bool)) .nil))))
def dd_is_integer : DD := ⟨"is_integer", ["value"], 1, b_is_integer⟩
def b_is_within : CS := (.ret (.and (.cons (.call "is_integer" (.cons (.var 0) .nil)) (.cons (.cmp2 .le .le (.var 1) (.var 0) (.var 2)) .nil))))
def dd_is_within : DD := ⟨"is_within", ["value", "low", "high"], 3, b_is_within⟩
def b_check : CS := (.ifs (.not (.var 0)) (.rse "NotRight" .nil) (.wip 0 .done) .done)
def dd_check : DD := ⟨"check", ["is_right"], 1, b_check⟩
def b_is_count : CS := (.ret (.and (.cons (.call "is_integer" (.cons (.var 0) .nil)) (.cons (.cmp .ge (.var 0) (.int 0)) .nil))))
def dd_is_count : DD := ⟨"is_count", ["value"], 1, b_is_count⟩
def b_is_striking : CS := (.ifs (.or (.cons (.not (.isi (.var 0) .tuple)) (.cons (.cmp .ne (.blt .len (.cons (.var 0) .nil)) (.int 3)) (.cons (.not (.isi (.ix (.var 0) (.int 2)) .bool)) .nil)))) (.ret (.bl false)) .done (.ifs (.or (.cons (.not (.call "is_within" (.cons (.ix (.var 0) (.int 0)) (.cons (.glo "HALF_A_DAY") (.cons (.glo "HOURS_OF_A_DAY") .nil))))) (.cons (.cmp .notin (.ix (.var 0) (.int 0)) (.tup (.cons (.glo "HALF_A_DAY") (.cons (.glo "HOURS_OF_A_DAY") .nil)))) .nil))) (.ret (.bl false)) .done (.asg (.nm 1) (.ix (.var 0) (.int 1)) (.ifs (.or (.cons (.not (.isi (.var 1) .tuple)) (.cons (.cmp .ne (.blt .len (.cons (.var 1) .nil)) (.int 3)) .nil))) (.ret (.bl false)) (.wip 0 .done) (.ret (.blt .all (.cons (.lc (.nm 2) (.cons (.var 1) .nil) .nil (.call "is_within" (.cons (.var 2) (.cons (.int 0) (.cons (.glo "MOST_STROKES") .nil))))) .nil)))))))
def dd_is_striking : DD := ⟨"is_striking", ["value", "quarters", "one"], 1, b_is_striking⟩
def b_check_striking : CS := (.ex (.call "check" (.cons (.call "is_striking" (.cons (.var 0) .nil)) .nil)) (.wip 0 .done))
def dd_check_striking : DD := ⟨"check_striking", ["rule"], 1, b_check_striking⟩
def b_hour_strokes : CS := (.asg (.nm 2) (.bin .mod (.var 1) (.var 0)) (.ret (.ife (.cmp .gt (.var 2) (.int 0)) (.var 2) (.var 0))))
def dd_hour_strokes : DD := ⟨"hour_strokes", ["hours", "hour", "strokes"], 2, b_hour_strokes⟩
def b_strokes_by : CS := (.asg (.tp (.cons (.nm 3) (.cons (.nm 4) (.cons (.nm 5) .nil)))) (.var 0) (.ifs (.cmp .ne (.bin .mod (.var 1) (.glo "QUARTER")) (.int 0)) (.ret (.int 0)) (.wip 0 .done) (.asg (.nm 2) (.bin .mod (.bin .fdiv (.var 1) (.glo "QUARTER")) (.int 4)) (.ifs (.cmp .eq (.var 2) (.int 0)) (.ret (.call "hour_strokes" (.cons (.var 3) (.cons (.bin .mod (.bin .fdiv (.var 1) (.glo "HOUR")) (.glo "HOURS_OF_A_DAY")) .nil)))) (.wip 1 (.wip 3 .done)) (.ret (.bin .add (.ix (.var 4) (.bin .sub (.var 2) (.int 1))) (.blt .int (.cons (.and (.cons (.var 5) (.cons (.cmp .eq (.var 2) (.int 2)) .nil))) .nil))))))))
def dd_strokes_by : DD := ⟨"strokes_by", ["rule", "second", "quarter", "hours", "quarters", "halves"], 2, b_strokes_by⟩
def b_strokes_at : CS := (.ex (.call "check_striking" (.cons (.var 0) .nil)) (.ex (.call "check" (.cons (.call "is_count" (.cons (.var 1) .nil)) .nil)) (.ret (.call "strokes_by" (.cons (.var 0) (.cons (.var 1) .nil))))))
def dd_strokes_at : DD := ⟨"strokes_at", ["rule", "second"], 2, b_strokes_at⟩
def b_strokes_ahead : CS := (.par 3 4 (.bin .fdiv (.var 1) (.glo "DAY")) (.bin .mod (.var 1) (.glo "DAY")) (.asg (.nm 2) (.blt .sum (.cons (.lc (.nm 5) (.rng (.cons (.int 0) (.cons (.glo "DAY") (.cons (.glo "QUARTER") .nil)))) .nil (.call "strokes_by" (.cons (.var 0) (.cons (.var 5) .nil)))) .nil)) (.ret (.bin .add (.bin .mul (.var 3) (.var 2)) (.blt .sum (.cons (.lc (.nm 5) (.rng (.cons (.int 0) (.cons (.var 4) (.cons (.glo "QUARTER") .nil)))) .nil (.call "strokes_by" (.cons (.var 0) (.cons (.var 5) .nil)))) .nil))))))
def dd_strokes_ahead : DD := ⟨"strokes_ahead", ["rule", "second", "whole", "days", "rest", "at"], 2, b_strokes_ahead⟩
def b_strokes_between : CS := (.ex (.call "check_striking" (.cons (.var 0) .nil)) (.ex (.call "check" (.cons (.and (.cons (.call "is_within" (.cons (.var 1) (.cons (.int 0) (.cons (.glo "LATEST") .nil)))) (.cons (.call "is_within" (.cons (.var 2) (.cons (.var 1) (.cons (.glo "LATEST") .nil)))) .nil))) .nil)) (.ret (.bin .sub (.call "strokes_ahead" (.cons (.var 0) (.cons (.var 2) .nil))) (.call "strokes_ahead" (.cons (.var 0) (.cons (.var 1) .nil)))))))
def dd_strokes_between : DD := ⟨"strokes_between", ["rule", "a", "b"], 3, b_strokes_between⟩
def b_next_striking_0 : CS := (.aug 2 .add (.glo "QUARTER") .done)
def b_next_striking_1 : CS := (.ret (.var 2))
def b_next_striking : CS := (.ex (.call "check_striking" (.cons (.var 0) .nil)) (.ex (.call "check" (.cons (.call "is_count" (.cons (.var 1) .nil)) .nil)) (.asg (.nm 2) (.bin .mul (.bin .fdiv (.bin .sub (.bin .add (.var 1) (.glo "QUARTER")) (.int 1)) (.glo "QUARTER")) (.glo "QUARTER")) (.wip 1 (.whl (.cmp .eq (.call "strokes_by" (.cons (.var 0) (.cons (.var 2) .nil))) (.int 0)) b_next_striking_0 b_next_striking_1)))))
def dd_next_striking : DD := ⟨"next_striking", ["rule", "second", "at"], 2, b_next_striking⟩
def b_is_striking_now : CS := (.ex (.call "check_striking" (.cons (.var 0) .nil)) (.ex (.call "check" (.cons (.call "is_count" (.cons (.var 1) .nil)) .nil)) (.asg (.nm 2) (.bin .mod (.var 1) (.glo "QUARTER")) (.ret (.and (.cons (.cmp .eq (.bin .mod (.var 2) (.glo "BETWEEN")) (.int 0)) (.cons (.cmp .lt (.bin .fdiv (.var 2) (.glo "BETWEEN")) (.call "strokes_by" (.cons (.var 0) (.cons (.bin .sub (.var 1) (.var 2)) .nil)))) .nil)))))))
def dd_is_striking_now : DD := ⟨"is_striking_now", ["rule", "second", "behind"], 2, b_is_striking_now⟩
def b_hours_heard : CS := (.ex (.call "check_striking" (.cons (.var 0) .nil)) (.ex (.call "check" (.cons (.call "is_count" (.cons (.var 1) .nil)) .nil)) (.ret (.lc (.nm 2) (.rng (.cons (.glo "HOURS_OF_A_DAY") .nil)) (.cons (.cmp .eq (.call "hour_strokes" (.cons (.ix (.var 0) (.int 0)) (.cons (.var 2) .nil))) (.var 1)) .nil) (.var 2)))))
def dd_hours_heard : DD := ⟨"hours_heard", ["rule", "n", "hour"], 2, b_hours_heard⟩
def b_check_wheel : CS := (.ex (.call "check" (.cons (.and (.cons (.call "is_within" (.cons (.var 0) (.cons (.int 1) (.cons (.glo "HALF_A_DAY") .nil)))) (.cons (.call "is_within" (.cons (.var 1) (.cons (.int 0) (.cons (.bin .sub (.glo "HOURS_OF_A_DAY") (.int 1)) .nil)))) .nil))) .nil)) (.wip 0 (.wip 1 .done)))
def dd_check_wheel : DD := ⟨"check_wheel", ["wheel", "hour"], 2, b_check_wheel⟩
def b_off_by : CS := (.ex (.call "check_wheel" (.cons (.var 0) (.cons (.var 1) .nil))) (.ret (.bin .mod (.bin .sub (.var 0) (.call "hour_strokes" (.cons (.glo "HALF_A_DAY") (.cons (.var 1) .nil)))) (.glo "HALF_A_DAY"))))
def dd_off_by : DD := ⟨"off_by", ["wheel", "hour"], 2, b_off_by⟩
def b_strikes_to_set : CS := (.ex (.call "check_wheel" (.cons (.var 0) (.cons (.var 1) .nil))) (.ret (.bin .mod (.bin .sub (.call "hour_strokes" (.cons (.glo "HALF_A_DAY") (.cons (.var 1) .nil))) (.var 0)) (.glo "HALF_A_DAY"))))
def dd_strikes_to_set : DD := ⟨"strikes_to_set", ["wheel", "hour"], 2, b_strikes_to_set⟩
def b_strokes_a_day : CS := (.ex (.call "check_striking" (.cons (.var 0) .nil)) (.ret (.call "strokes_ahead" (.cons (.var 0) (.cons (.glo "DAY") .nil)))))
def dd_strokes_a_day : DD := ⟨"strokes_a_day", ["rule"], 1, b_strokes_a_day⟩
def b_longest_silence : CS := (.ex (.call "check_striking" (.cons (.var 0) .nil)) (.asg (.nm 1) (.lc (.nm 2) (.rng (.cons (.int 0) (.cons (.glo "DAY") (.cons (.glo "QUARTER") .nil)))) (.cons (.cmp .gt (.call "strokes_by" (.cons (.var 0) (.cons (.var 2) .nil))) (.int 0)) .nil) (.var 2)) (.ret (.blt .max (.cons (.lc (.tp (.cons (.nm 3) (.cons (.nm 4) .nil))) (.zip (.var 1) (.lst (.scons (.sl (.var 1) (.cons (.int 1) .nil) .nil) (.cons (.bin .add (.ix (.var 1) (.int 0)) (.glo "DAY")) .nil)))) .nil (.bin .sub (.var 4) (.var 3))) .nil)))))
def dd_longest_silence : DD := ⟨"longest_silence", ["rule", "begins", "at", "before", "after"], 1, b_longest_silence⟩
def b__law_draws_2 : CS := (.ifs (.cmp .gt (.var 5) (.int 0)) (.app 1 (.bin .mod (.blt .int (.cons (.var 5) .nil)) (.int 997)) (.asg (.nm 5) (.bin .fdiv (.var 5) (.int 997)) (.wip 4 .done))) (.wip 4 .done) .done)
def b__law_draws_3 : CS := (.wip 5 .done)
def b__law_draws_1 : CS := (.for_ (.nm 4) (.rng (.cons (.int 60) .nil)) b__law_draws_2 b__law_draws_3)
def b__law_draws_0 : CS := (.asg (.nm 5) (.blt .abs (.cons (.blt .int (.cons (.var 3) .nil)) .nil)) (.asg (.nm 2) (.bin .mod (.blt .int (.cons (.bin .add (.bin .add (.bin .mul (.var 2) (.int 48271)) (.var 5)) (.int 1)) .nil)) (.int 2147483647)) (.ifs (.cmp .lt (.var 5) (.bin .pow (.int 10) (.int 18))) (.app 1 (.bin .mod (.blt .int (.cons (.var 5) .nil)) (.int 997)) (.app 1 (.bin .mod (.blt .int (.cons (.var 2) .nil)) (.int 65521)) (.asg (.nm 5) (.int 0) (.wip 3 .done)))) (.wip 3 .done) b__law_draws_1)))
def b__law_draws_5 : CS := (.asg (.nm 2) (.bin .mod (.blt .int (.cons (.bin .add (.bin .mul (.var 2) (.int 48271)) (.int 69621)) .nil)) (.int 2147483647)) (.app 1 (.bin .fdiv (.var 2) (.int 5)) (.wip 4 .done)))
def b__law_draws_6 : CS := (.ret (.lrev (.var 1)))
def b__law_draws_4 : CS := (.wip 0 (.for_ (.nm 4) (.rng (.cons (.int 700) .nil)) b__law_draws_5 b__law_draws_6))
def b__law_draws : CS := (.own 1 (.lst .nil) (.asg (.nm 2) (.int 11) (.for_ (.nm 3) (.cons (.var 0) .nil) b__law_draws_0 b__law_draws_4)))
def dd__law_draws : DD := ⟨"_law_draws", ["script", "draws", "seed", "cell", "k", "number"], 1, b__law_draws⟩
def b__law_take : CS := (.ifs (.cmp .eq (.dlen 0) (.int 0)) (.ret (.int 0)) .done (.ret (.bin .mod (.blt .int (.cons (.dpop 0) .nil)) (.var 1))))
def dd__law_take : DD := ⟨"_law_take", ["draws", "bound"], 2, b__law_take⟩
def b__law_pick : CS := (.ret (.ix (.var 1) (.call "_law_take" (.cons (.var 0) (.cons (.blt .len (.cons (.var 1) .nil)) .nil)))))
def dd__law_pick : DD := ⟨"_law_pick", ["draws", "some"], 2, b__law_pick⟩
def b__law_same_0 : CS := (.ifs (.isi (.var 1) .dict) (.ifs (.or (.cons (.not (.isi (.var 0) .dict)) (.cons (.cmp .ne (.blt .len (.cons (.var 0) .nil)) (.blt .len (.cons (.var 1) .nil))) .nil))) (.ret (.bl false)) .done (.ret (.cmp .eq (.lc (.nm 3) (.cons (.var 1) .nil) (.cons (.or (.cons (.cmp .notin (.var 3) (.var 0)) (.cons (.not (.call "_law_same" (.cons (.ix (.var 0) (.var 3)) (.cons (.ix (.var 1) (.var 3)) .nil)))) .nil))) .nil) (.var 3)) (.lst .nil)))) .done (.ifs (.cmp .ne (.isi (.var 1) .bool) (.isi (.var 0) .bool)) (.ret (.bl false)) .done (.ifs (.or (.cons (.cmp .ne (.isi (.var 1) .int) (.isi (.var 0) .int)) (.cons (.cmp .ne (.isi (.var 1) .str) (.isi (.var 0) .str)) .nil))) (.ret (.bl false)) .done (.ret (.cmp .eq (.var 0) (.var 1))))))
def b__law_same_1 : CS := (.ifs (.not (.call "_law_same" (.cons (.ix (.var 0) (.var 2)) (.cons (.ix (.var 1) (.var 2)) .nil)))) (.ret (.bl false)) (.wip 2 .done) .done)
def b__law_same_2 : CS := (.ret (.bl true))
def b__law_same : CS := (.ifs (.isN (.var 1)) (.ret (.isN (.var 0))) .done (.ifs (.or (.cons (.isi (.var 1) .tuple) (.cons (.isi (.var 1) .list) .nil))) (.ifs (.or (.cons (.cmp .ne (.isi (.var 1) .tuple) (.isi (.var 0) .tuple)) (.cons (.cmp .ne (.isi (.var 1) .list) (.isi (.var 0) .list)) .nil))) (.ret (.bl false)) .done (.ifs (.cmp .ne (.blt .len (.cons (.var 0) .nil)) (.blt .len (.cons (.var 1) .nil))) (.ret (.bl false)) .done (.for_ (.nm 2) (.rng (.cons (.blt .len (.cons (.var 1) .nil)) .nil)) b__law_same_1 b__law_same_2))) .done b__law_same_0))
def dd__law_same : DD := ⟨"_law_same", ["actual", "due", "k", "key"], 2, b__law_same⟩
def b__law_rule : CS := (.asg (.nm 1) (.call "_law_pick" (.cons (.var 0) (.cons (.lst (.cons (.tup (.cons (.int 0) (.cons (.int 0) (.cons (.int 0) .nil)))) (.cons (.tup (.cons (.int 1) (.cons (.int 2) (.cons (.int 3) .nil)))) (.cons (.tup (.cons (.call "_law_take" (.cons (.var 0) (.cons (.int 9) .nil))) (.cons (.call "_law_take" (.cons (.var 0) (.cons (.int 9) .nil))) (.cons (.call "_law_take" (.cons (.var 0) (.cons (.int 9) .nil))) .nil)))) (.cons (.tup (.cons (.int 0) (.cons (.call "_law_take" (.cons (.var 0) (.cons (.int 3) .nil))) (.cons (.int 0) .nil)))) .nil))))) .nil))) (.ret (.tup (.cons (.call "_law_pick" (.cons (.var 0) (.cons (.lst (.cons (.int 12) (.cons (.int 24) .nil))) .nil))) (.cons (.var 1) (.cons (.cmp .eq (.call "_law_take" (.cons (.var 0) (.cons (.int 2) .nil))) (.int 0)) .nil))))))
def dd__law_rule : DD := ⟨"_law_rule", ["draws", "quarters"], 1, b__law_rule⟩
def b__law_hour : CS := (.ifs (.cmp .eq (.var 0) (.int 12)) (.ret (.ix (.lst (.cons (.int 12) (.cons (.int 1) (.cons (.int 2) (.cons (.int 3) (.cons (.int 4) (.cons (.int 5) (.cons (.int 6) (.cons (.int 7) (.cons (.int 8) (.cons (.int 9) (.cons (.int 10) (.cons (.int 11) .nil))))))))))))) (.bin .mod (.blt .int (.cons (.var 1) .nil)) (.int 12)))) (.wip 0 .done) (.ret (.ix (.lst (.cons (.int 24) (.cons (.var 1) .nil))) (.blt .int (.cons (.cmp .gt (.var 1) (.int 0)) .nil)))))
def dd__law_hour : DD := ⟨"_law_hour", ["hours", "h"], 2, b__law_hour⟩
def b__law_day_0 : CS := (.asg (.nm 1) (.bin .add (.var 1) (.lst (.cons (.call "_law_hour" (.cons (.var 3) (.cons (.var 2) .nil))) (.cons (.ix (.var 4) (.int 0)) (.cons (.bin .add (.ix (.var 4) (.int 1)) (.blt .int (.cons (.var 5) .nil))) (.cons (.ix (.var 4) (.int 2)) .nil)))))) (.wip 2 .done))
def b__law_day_1 : CS := (.ret (.var 1))
def b__law_day : CS := (.asg (.tp (.cons (.nm 3) (.cons (.nm 4) (.cons (.nm 5) .nil)))) (.var 0) (.asg (.nm 1) (.lst .nil) (.wip 0 (.for_ (.nm 2) (.rng (.cons (.int 24) .nil)) b__law_day_0 b__law_day_1))))
def dd__law_day : DD := ⟨"_law_day", ["rule", "found", "h", "hours", "quarters", "halves"], 1, b__law_day⟩
def b__law_ahead : CS := (.asg (.nm 2) (.call "_law_day" (.cons (.var 0) .nil)) (.asg (.nm 3) (.bin .fdiv (.bin .add (.var 1) (.int 899)) (.int 900)) (.ret (.bin .add (.bin .mul (.bin .fdiv (.var 3) (.int 96)) (.blt .sum (.cons (.var 2) .nil))) (.blt .sum (.cons (.sl (.var 2) .nil (.cons (.bin .mod (.blt .int (.cons (.var 3) .nil)) (.int 96)) .nil)) .nil))))))
def dd__law_ahead : DD := ⟨"_law_ahead", ["rule", "second", "day", "quarters"], 2, b__law_ahead⟩
def b__law_told : CS := (.tryF "TuneError" "_law_flags" 4 (.ifs (.cmp .lt (.var 0) (.int 3)) (.ret (.callv (.ix (.lst (.cons (.fnv "is_striking") (.cons (.fnv "strokes_a_day") (.cons (.fnv "longest_silence") .nil)))) (.var 0)) (.cons (.var 1) .nil))) .done (.ifs (.cmp .lt (.var 0) (.int 9)) (.ret (.callv (.ix (.lst (.cons (.fnv "strokes_at") (.cons (.fnv "next_striking") (.cons (.fnv "is_striking_now") (.cons (.fnv "hours_heard") (.cons (.fnv "off_by") (.cons (.fnv "strikes_to_set") .nil))))))) (.bin .sub (.var 0) (.int 3))) (.cons (.var 1) (.cons (.var 2) .nil)))) (.wip 0 .done) (.ret (.call "strokes_between" (.cons (.var 1) (.cons (.var 2) (.cons (.var 3) .nil))))))) .done)
def dd__law_told : DD := ⟨"_law_told", ["which", "one", "two", "three", "e"], 4, b__law_told⟩
def b__law_is_second_right_0 : CS := (.asg (.nm 3) (.bin .mod (.blt .int (.cons (.var 1) .nil)) (.int 900)) (.asg (.nm 4) (.and (.cons (.cmp .eq (.bin .mod (.blt .int (.cons (.var 3) .nil)) (.int 2)) (.int 0)) (.cons (.cmp .lt (.var 3) (.bin .mul (.int 2) (.ix (.var 2) (.var 9)))) .nil))) (.asg (.nm 5) (.bin .fdiv (.bin .add (.var 1) (.int 899)) (.int 900)) (.asg (.nm 6) (.ix (.lc (.nm 10) (.rng (.cons (.int 97) .nil)) (.cons (.cmp .gt (.ix (.var 2) (.bin .mod (.blt .int (.cons (.bin .add (.var 5) (.var 10)) .nil)) (.int 96))) (.int 0)) .nil) (.var 10)) (.int 0)) (.asg (.nm 7) (.lst (.cons (.call "_law_told" (.cons (.int 3) (.cons (.var 0) (.cons (.var 1) (.cons (.int 0) .nil))))) (.cons (.call "_law_told" (.cons (.int 4) (.cons (.var 0) (.cons (.var 1) (.cons (.int 0) .nil))))) (.cons (.call "_law_told" (.cons (.int 5) (.cons (.var 0) (.cons (.var 1) (.cons (.int 0) .nil))))) .nil)))) (.ret (.call "_law_same" (.cons (.var 7) (.cons (.lst (.cons (.var 8) (.cons (.bin .mul (.bin .add (.var 5) (.var 6)) (.int 900)) (.cons (.var 4) .nil)))) .nil)))))))))
def b__law_is_second_right : CS := (.asg (.nm 2) (.call "_law_day" (.cons (.var 0) .nil)) (.par 8 9 (.int 0) (.bin .mod (.blt .int (.cons (.bin .fdiv (.var 1) (.int 900)) .nil)) (.int 96)) (.ifs (.cmp .eq (.bin .mod (.blt .int (.cons (.var 1) .nil)) (.int 900)) (.int 0)) (.asg (.nm 8) (.ix (.var 2) (.var 9)) .done) .done b__law_is_second_right_0)))
def dd__law_is_second_right : DD := ⟨"_law_is_second_right", ["rule", "second", "day", "behind", "falls", "quarter", "step", "got", "due", "now", "k"], 2, b__law_is_second_right⟩
def b_law_1 : CS := (.asg (.nm 15) (.call "_law_pick" (.cons (.var 1) (.cons (.lst (.cons (.int 0) (.cons (.int 1) (.cons (.int 95) (.cons (.int 96) (.cons (.call "_law_take" (.cons (.var 1) (.cons (.int 97) .nil))) (.cons (.call "_law_take" (.cons (.var 1) (.cons (.int 997) .nil))) (.cons (.bin .add (.bin .pow (.int 10) (.int 18)) (.call "_law_take" (.cons (.var 1) (.cons (.int 97) .nil)))) .nil)))))))) .nil))) (.asg (.nm 16) (.bin .add (.bin .mul (.int 900) (.var 15)) (.call "_law_pick" (.cons (.var 1) (.cons (.lst (.cons (.int 0) (.cons (.int 0) (.cons (.int 1) (.cons (.int 2) (.cons (.int 14) (.cons (.int 16) (.cons (.int 46) (.cons (.int 48) (.cons (.int 899) (.cons (.call "_law_take" (.cons (.var 1) (.cons (.int 900) .nil))) .nil))))))))))) .nil)))) (.ifs (.not (.call "_law_is_second_right" (.cons (.var 4) (.cons (.var 16) .nil)))) (.ret (.bl false)) (.wip 9 (.wip 15 (.wip 16 .done))) .done)))
def b_law_3 : CS := (.asg (.nm 17) (.call "_law_pick" (.cons (.var 1) (.cons (.lst (.cons (.int 0) (.cons (.int 1) (.cons (.int 899) (.cons (.int 900) (.cons (.int 86400) (.cons (.bin .mul (.call "_law_take" (.cons (.var 1) (.cons (.int 65521) .nil))) (.int 900)) (.cons (.bin .pow (.int 10) (.int 12)) (.cons (.call "_law_take" (.cons (.var 1) (.cons (.int 65521) .nil))) .nil))))))))) .nil))) (.asg (.nm 18) (.blt .min (.cons (.bin .pow (.int 10) (.int 12)) (.cons (.bin .add (.var 17) (.call "_law_pick" (.cons (.var 1) (.cons (.lst (.cons (.int 0) (.cons (.int 1) (.cons (.int 900) (.cons (.int 3601) (.cons (.int 86400) (.cons (.bin .mul (.call "_law_take" (.cons (.var 1) (.cons (.int 65521) .nil))) (.int 53)) (.cons (.bin .pow (.int 10) (.int 12)) .nil)))))))) .nil)))) .nil))) (.ifs (.not (.call "_law_same" (.cons (.call "_law_told" (.cons (.int 9) (.cons (.var 4) (.cons (.var 17) (.cons (.var 18) .nil))))) (.cons (.bin .sub (.call "_law_ahead" (.cons (.var 4) (.cons (.var 18) .nil))) (.call "_law_ahead" (.cons (.var 4) (.cons (.var 17) .nil)))) .nil)))) (.ret (.bl false)) (.wip 9 (.wip 17 (.wip 18 .done))) .done)))
def b_law_5 : CS := (.ifs (.not (.call "_law_same" (.cons (.call "_law_told" (.cons (.int 6) (.cons (.var 4) (.cons (.var 10) (.cons (.int 0) .nil))))) (.cons (.lc (.nm 25) (.rng (.cons (.int 24) .nil)) (.cons (.cmp .eq (.call "_law_hour" (.cons (.ix (.var 4) (.int 0)) (.cons (.var 25) .nil))) (.var 10)) .nil) (.var 25)) .nil)))) (.ret (.bl false)) (.wip 10 .done) .done)
def b_law_6 : CS := (.par 19 20 (.bin .add (.int 1) (.call "_law_take" (.cons (.var 1) (.cons (.int 12) .nil)))) (.call "_law_take" (.cons (.var 1) (.cons (.int 24) .nil))) (.asg (.nm 11) (.bin .mod (.blt .int (.cons (.bin .sub (.var 19) (.call "_law_hour" (.cons (.int 12) (.cons (.var 20) .nil)))) .nil)) (.int 12)) (.ifs (.not (.call "_law_same" (.cons (.lst (.cons (.call "_law_told" (.cons (.int 7) (.cons (.var 19) (.cons (.var 20) (.cons (.int 0) .nil))))) (.cons (.call "_law_told" (.cons (.int 8) (.cons (.var 19) (.cons (.var 20) (.cons (.int 0) .nil))))) .nil))) (.cons (.lst (.cons (.var 11) (.cons (.bin .mod (.blt .int (.cons (.bin .sub (.int 12) (.var 11)) .nil)) (.int 12)) .nil))) .nil)))) (.ret (.bl false)) (.wip 11 (.wip 19 (.wip 20 .done))) (.asg (.nm 12) (.lst (.cons .non (.cons (.sl (.var 4) .nil (.cons (.int 2) .nil)) (.cons (.blt .list (.cons (.var 4) .nil)) (.cons (.bin .add (.tup (.cons (.int 6) .nil)) (.sl (.var 4) (.cons (.int 1) .nil) .nil)) (.cons (.bin .add (.tup (.cons (.bl true) .nil)) (.sl (.var 4) (.cons (.int 1) .nil) .nil)) (.cons (.tup (.cons (.int 12) (.cons (.tup (.cons (.int 1) (.cons (.int 2) .nil))) (.cons (.bl true) .nil)))) (.cons (.tup (.cons (.int 12) (.cons (.lst (.cons (.int 1) (.cons (.int 2) (.cons (.int 3) .nil)))) (.cons (.bl true) .nil)))) (.cons (.tup (.cons (.int 12) (.cons (.tup (.cons (.int 9) (.cons (.int 0) (.cons (.int 0) .nil)))) (.cons (.bl true) .nil)))) .nil))))))))) (.asg (.nm 12) (.call "_law_pick" (.cons (.var 1) (.cons (.bin .add (.var 12) (.lst (.cons (.tup (.cons (.int 12) (.cons (.tup (.cons (.int 0) (.cons (.neg (.int 1)) (.cons (.int 0) .nil)))) (.cons (.bl true) .nil)))) (.cons (.tup (.cons (.int 12) (.cons (.tup (.cons (.int 0) (.cons (.int 0) (.cons (.int 0) .nil)))) (.cons (.int 1) .nil)))) (.cons (.tup (.cons (.int 12) (.cons (.tup (.cons (.bl true) (.cons (.int 0) (.cons (.int 0) .nil)))) (.cons (.bl false) .nil)))) (.cons (.tup (.cons (.str "12") (.cons (.tup (.cons (.int 0) (.cons (.int 0) (.cons (.int 0) .nil)))) (.cons (.bl false) .nil)))) .nil)))))) .nil))) (.asg (.nm 13) (.call "_law_pick" (.cons (.var 1) (.cons (.lst (.cons (.neg (.int 1)) (.cons .non (.cons (.bl true) (.cons (.str "0") .nil))))) .nil))) (.asg (.nm 14) (.bin .add (.lc (.nm 22) (.cons (.lst (.cons (.int 1) (.cons (.int 2) (.cons (.int 3) (.cons (.int 4) (.cons (.int 5) (.cons (.int 6) (.cons (.int 9) .nil)))))))) .nil) .nil (.call "_law_told" (.cons (.var 22) (.cons (.var 12) (.cons (.int 0) (.cons (.int 0) .nil)))))) (.lc (.nm 22) (.cons (.lst (.cons (.int 3) (.cons (.int 4) (.cons (.int 5) (.cons (.int 6) .nil))))) .nil) .nil (.call "_law_told" (.cons (.var 22) (.cons (.var 4) (.cons (.var 13) (.cons (.int 0) .nil))))))) (.asg (.nm 14) (.bin .add (.var 14) (.lst (.cons (.call "_law_told" (.cons (.int 9) (.cons (.var 4) (.cons (.int 5) (.cons (.int 4) .nil))))) (.cons (.call "_law_told" (.cons (.int 9) (.cons (.var 4) (.cons (.neg (.int 1)) (.cons (.int 4) .nil))))) (.cons (.call "_law_told" (.cons (.int 9) (.cons (.var 4) (.cons (.int 0) (.cons (.bin .add (.bin .pow (.int 10) (.int 12)) (.int 1)) .nil))))) (.cons (.call "_law_told" (.cons (.int 9) (.cons (.var 4) (.cons (.int 0) (.cons (.var 13) .nil))))) .nil)))))) (.asg (.nm 14) (.bin .add (.var 14) (.lc (.tp (.cons (.nm 22) (.cons (.nm 23) (.cons (.nm 24) .nil)))) (.cons (.lst (.cons (.tup (.cons (.int 7) (.cons (.int 0) (.cons (.int 0) .nil)))) (.cons (.tup (.cons (.int 7) (.cons (.int 13) (.cons (.int 0) .nil)))) (.cons (.tup (.cons (.int 8) (.cons (.int 1) (.cons (.int 24) .nil)))) (.cons (.tup (.cons (.int 8) (.cons (.int 1) (.cons (.neg (.int 1)) .nil)))) (.cons (.tup (.cons (.int 7) (.cons (.bl true) (.cons (.int 0) .nil)))) (.cons (.tup (.cons (.int 8) (.cons (.int 1) (.cons .non .nil)))) .nil))))))) .nil) .nil (.call "_law_told" (.cons (.var 22) (.cons (.var 23) (.cons (.var 24) (.cons (.int 0) .nil))))))) (.ifs (.or (.cons (.not (.call "_law_same" (.cons (.var 14) (.cons (.bin .mul (.lst (.cons (.var 2) .nil)) (.int 21)) .nil)))) (.cons (.cmp .isnot (.call "is_striking" (.cons (.var 12) .nil)) (.bl false)) .nil))) (.ret (.bl false)) (.wip 4 (.wip 12 (.wip 13 (.wip 14 .done)))) .done))))))))))
def b_law_4 : CS := (.for_ (.nm 10) (.cons (.lst (.cons (.int 0) (.cons (.int 1) (.cons (.int 12) (.cons (.int 13) (.cons (.int 24) (.cons (.int 25) (.cons (.call "_law_take" (.cons (.var 1) (.cons (.int 30) .nil))) .nil)))))))) .nil) b_law_5 b_law_6)
def b_law_2 : CS := (.for_ (.nm 9) (.rng (.cons (.int 6) .nil)) b_law_3 b_law_4)
def b_law_0 : CS := (.asg (.nm 4) (.call "_law_rule" (.cons (.var 1) .nil)) (.asg (.nm 6) (.call "_law_day" (.cons (.var 4) .nil)) (.asg (.nm 7) (.lc (.nm 21) (.rng (.cons (.int 96) .nil)) (.cons (.cmp .gt (.ix (.var 6) (.var 21)) (.int 0)) .nil) (.var 21)) (.asg (.nm 8) (.bin .add (.lc (.nm 21) (.rng (.cons (.bin .sub (.blt .len (.cons (.var 7) .nil)) (.int 1)) .nil)) .nil (.bin .sub (.ix (.var 7) (.bin .add (.var 21) (.int 1))) (.ix (.var 7) (.var 21)))) (.lst (.cons (.bin .sub (.bin .add (.ix (.var 7) (.int 0)) (.int 96)) (.ix (.var 7) (.bin .sub (.blt .len (.cons (.var 7) .nil)) (.int 1)))) .nil))) (.ifs (.not (.call "_law_same" (.cons (.lc (.nm 22) (.rng (.cons (.int 3) .nil)) .nil (.call "_law_told" (.cons (.var 22) (.cons (.var 4) (.cons (.int 0) (.cons (.int 0) .nil)))))) (.cons (.lst (.cons (.bl true) (.cons (.blt .sum (.cons (.var 6) .nil)) (.cons (.bin .mul (.int 900) (.blt .max (.cons (.var 8) .nil))) .nil)))) .nil)))) (.ret (.bl false)) (.wip 3 (.wip 6 (.wip 7 (.wip 8 .done)))) (.for_ (.nm 9) (.rng (.cons (.int 12) .nil)) b_law_1 b_law_2))))))
def b_law_7 : CS := (.asg (.nm 4) (.tup (.cons (.int 12) (.cons (.tup (.cons (.int 1) (.cons (.int 2) (.cons (.int 3) .nil)))) (.cons (.bl false) .nil)))) (.asg (.nm 5) (.lst (.cons (.call "strokes_at" (.cons (.var 4) (.cons (.int 0) .nil))) (.cons (.call "strokes_at" (.cons (.var 4) (.cons (.int 5400) .nil))) (.cons (.call "strokes_a_day" (.cons (.var 4) .nil)) (.cons (.call "strokes_between" (.cons (.var 4) (.cons (.int 0) (.cons (.int 3601) .nil)))) (.cons (.call "hours_heard" (.cons (.var 4) (.cons (.int 3) .nil))) (.cons (.call "next_striking" (.cons (.var 4) (.cons (.int 1) .nil))) (.cons (.call "off_by" (.cons (.int 3) (.cons (.int 14) .nil))) (.cons (.call "strikes_to_set" (.cons (.int 3) (.cons (.int 14) .nil))) .nil))))))))) (.ret (.call "_law_same" (.cons (.bin .add (.var 5) (.lst (.cons (.call "longest_silence" (.cons (.tup (.cons (.int 12) (.cons (.tup (.cons (.int 0) (.cons (.int 0) (.cons (.int 0) .nil)))) (.cons (.bl false) .nil)))) .nil)) .nil))) (.cons (.lst (.cons (.int 12) (.cons (.int 2) (.cons (.int 300) (.cons (.int 19) (.cons (.lst (.cons (.int 3) (.cons (.int 15) .nil))) (.cons (.int 900) (.cons (.int 1) (.cons (.int 11) (.cons (.int 3600) .nil)))))))))) .nil))))))
def b_law : CS := (.asg (.nm 2) (.lst (.cons (.bl true) (.cons (.bl false) (.cons (.bl false) (.cons (.bl false) (.cons (.bl false) .nil)))))) (.for_ (.nm 3) (.rng (.cons (.int 4) .nil)) b_law_0 b_law_7))
def dd_law : DD := ⟨"law", ["script", "draws", "refused", "turn", "rule", "got", "day", "struck", "gaps", "again", "n", "off", "bad", "cell", "odd", "quarter", "second", "a", "b", "wheel", "hour", "k", "which", "one", "two", "h"], 1, b_law⟩
def pr : Pr where
  ds := [dd_is_integer, dd_is_within, dd_check, dd_is_count, dd_is_striking, dd_check_striking, dd_hour_strokes, dd_strokes_by, dd_strokes_at, dd_strokes_ahead, dd_strokes_between, dd_next_striking, dd_is_striking_now, dd_hours_heard, dd_check_wheel, dd_off_by, dd_strikes_to_set, dd_strokes_a_day, dd_longest_silence, dd__law_draws, dd__law_take, dd__law_pick, dd__law_same, dd__law_rule, dd__law_hour, dd__law_day, dd__law_ahead, dd__law_told, dd__law_is_second_right]
  cons := [("HOUR", .int (3600)), ("QUARTER", .int (900)), ("DAY", .int (86400)), ("HALF_A_DAY", .int (12)), ("HOURS_OF_A_DAY", .int (24)), ("BETWEEN", .int (2)), ("MOST_STROKES", .int (8)), ("LATEST", .int (1000000000000))]
  bl := ["len", "abs", "max", "min", "sum", "all", "int", "list", "tuple", "str", "bool", "dict", "isinstance", "range", "reversed", "zip"]
  exc := ["NotRight"]
  tcl := ["TuneError"]
  flg := [("_law_flags", "e", ["NotRight", "NotThere", "NoAnswer", "TooLarge", "Malformed"])]
  err := ["NotRight"]
  isub := fun a b => a == b || (a == ("NotRight" : PySem.Str) && b == ("TuneError" : PySem.Str))
end K11

noncomputable section
namespace K11
open PySem Cr
def x_is_integer (v0_value : D) : M D :=
 kO (isiD .int v0_value) fun t1 =>
 kO (blD (D.bl t1)) fun t2 =>
 sel t2 (kO (isiD .bool v0_value) fun t3 =>
 kO (notD (D.bl t3)) ret) (ret (D.bl false))
theorem s_is_integer (j : Nat) (h : 1 ≤ j + 1) (v0_value : D) : (kB (pr.at (j + 1)) b_is_integer [.val v0_value] (fun _ => ret D.non) (fun _ => bad) (fun _ => bad) ret) = x_is_integer v0_value := by
  unfold x_is_integer
  refine Eq.trans (b := (kO (isiD .int v0_value) fun t1 =>
 kO (blD (D.bl t1)) fun t2 =>
 bnd (sel t2 (kO (isiD .bool v0_value) fun t3 =>
 kO (notD (D.bl t3)) ret) (ret (D.bl false))) ret : M D)) ((by kernel_rfl)) ?_
  simp only [ret_bnd]
theorem c_is_integer (i : Nat) (h : 2 ≤ i) (v0_value : D) : callF (pr.at i) "is_integer" [v0_value] = x_is_integer v0_value := by
  obtain ⟨j, rfl⟩ : ∃ j, i = j + 2 := ⟨i - 2, by omega⟩
  refine Eq.trans (b := (fun dr => callD (pr.at (j + 1)) 1 b_is_integer [v0_value] dr)) (by kernel_rfl) ?_
  exact (callD_run (Nat.le_of_ble_eq_true rfl)).trans (s_is_integer j (by omega) v0_value)
def x_is_within (v0_value : D) (v1_low : D) (v2_high : D) : M D :=
 bnd (x_is_integer v0_value) fun t1 =>
 kO (blD t1) fun t2 =>
 sel t2 (kO (cmpD .le v1_low v0_value) fun t3 =>
 bnd (sel t3 (kO (cmpD .le v0_value v2_high) ret) (ret false)) fun t4 =>
 ret (D.bl t4)) (ret (D.bl false))
theorem s_is_within (j : Nat) (h : 2 ≤ j + 1) (v0_value : D) (v1_low : D) (v2_high : D) : (kB (pr.at (j + 1)) b_is_within [.val v0_value, .val v1_low, .val v2_high] (fun _ => ret D.non) (fun _ => bad) (fun _ => bad) ret) = x_is_within v0_value v1_low v2_high := by
  unfold x_is_within
  refine Eq.trans (b := (bnd (callF (pr.at (j + 1)) "is_integer" [v0_value]) fun t1 =>
 kO (blD t1) fun t2 =>
 bnd (sel t2 (kO (cmpD .le v1_low v0_value) fun t3 =>
 bnd (sel t3 (kO (cmpD .le v0_value v2_high) ret) (ret false)) fun t4 =>
 ret (D.bl t4)) (ret (D.bl false))) ret : M D)) ((by kernel_rfl)) ?_
  simp only [ret_bnd, c_is_integer (j + 1) (by omega)]
theorem c_is_within (i : Nat) (h : 3 ≤ i) (v0_value : D) (v1_low : D) (v2_high : D) : callF (pr.at i) "is_within" [v0_value, v1_low, v2_high] = x_is_within v0_value v1_low v2_high := by
  obtain ⟨j, rfl⟩ : ∃ j, i = j + 2 := ⟨i - 2, by omega⟩
  refine Eq.trans (b := (fun dr => callD (pr.at (j + 1)) 3 b_is_within [v0_value, v1_low, v2_high] dr)) (by kernel_rfl) ?_
  exact (callD_run (Nat.le_of_ble_eq_true rfl)).trans (s_is_within j (by omega) v0_value v1_low v2_high)
def x_check (v0_is_right : D) : M D :=
 kO (D.tru v0_is_right) fun t1 =>
 sel (!t1) (thr ⟨"NotRight", none⟩) (ret D.non)
theorem s_check (j : Nat) (h : 1 ≤ j + 1) (v0_is_right : D) : (kB (pr.at (j + 1)) b_check [.val v0_is_right] (fun _ => ret D.non) (fun _ => bad) (fun _ => bad) ret) = x_check v0_is_right := by
  unfold x_check
  refine Eq.trans (b := (kO (D.tru v0_is_right) fun t1 =>
 sel (!t1) (thr ⟨"NotRight", none⟩) (ret D.non) : M D)) ((by kernel_rfl)) ?_
  rfl
theorem c_check (i : Nat) (h : 2 ≤ i) (v0_is_right : D) : callF (pr.at i) "check" [v0_is_right] = x_check v0_is_right := by
  obtain ⟨j, rfl⟩ : ∃ j, i = j + 2 := ⟨i - 2, by omega⟩
  refine Eq.trans (b := (fun dr => callD (pr.at (j + 1)) 1 b_check [v0_is_right] dr)) (by kernel_rfl) ?_
  exact (callD_run (Nat.le_of_ble_eq_true rfl)).trans (s_check j (by omega) v0_is_right)
def x_is_count (v0_value : D) : M D :=
 bnd (x_is_integer v0_value) fun t1 =>
 kO (blD t1) fun t2 =>
 sel t2 (kO (cmpD .ge v0_value (D.int 0)) fun t3 =>
 ret (D.bl t3)) (ret (D.bl false))
theorem s_is_count (j : Nat) (h : 2 ≤ j + 1) (v0_value : D) : (kB (pr.at (j + 1)) b_is_count [.val v0_value] (fun _ => ret D.non) (fun _ => bad) (fun _ => bad) ret) = x_is_count v0_value := by
  unfold x_is_count
  refine Eq.trans (b := (bnd (callF (pr.at (j + 1)) "is_integer" [v0_value]) fun t1 =>
 kO (blD t1) fun t2 =>
 bnd (sel t2 (kO (cmpD .ge v0_value (D.int 0)) fun t3 =>
 ret (D.bl t3)) (ret (D.bl false))) ret : M D)) ((by kernel_rfl)) ?_
  simp only [ret_bnd, c_is_integer (j + 1) (by omega)]
theorem c_is_count (i : Nat) (h : 3 ≤ i) (v0_value : D) : callF (pr.at i) "is_count" [v0_value] = x_is_count v0_value := by
  obtain ⟨j, rfl⟩ : ∃ j, i = j + 2 := ⟨i - 2, by omega⟩
  refine Eq.trans (b := (fun dr => callD (pr.at (j + 1)) 1 b_is_count [v0_value] dr)) (by kernel_rfl) ?_
  exact (callD_run (Nat.le_of_ble_eq_true rfl)).trans (s_is_count j (by omega) v0_value)
def x_is_striking (v0_value : D) : M D :=
 kO (isiD .tuple v0_value) fun t1 =>
 bnd (sel (!t1) (ret true) (kO (bltD .len [v0_value]) fun t2 =>
 kO (cmpD .ne t2 (D.int 3)) fun t3 =>
 sel t3 (ret true) (kO (ixD v0_value (D.int 2)) fun t4 =>
 kO (isiD .bool t4) fun t5 =>
 ret (!t5)))) fun t6 =>
 sel t6 (ret (D.bl false)) (kO (ixD v0_value (D.int 0)) fun t7 =>
 bnd (x_is_within t7 (D.int (12)) (D.int (24))) fun t8 =>
 kO (D.tru t8) fun t9 =>
 bnd (sel (!t9) (ret true) (kO (ixD v0_value (D.int 0)) fun t10 =>
 kO (cmpD .notin t10 (D.tup [(D.int (12)), (D.int (24))])) ret)) fun t11 =>
 sel t11 (ret (D.bl false)) (kO (ixD v0_value (D.int 1)) fun quarters12 =>
 kO (isiD .tuple quarters12) fun t13 =>
 bnd (sel (!t13) (ret true) (kO (bltD .len [quarters12]) fun t14 =>
 kO (cmpD .ne t14 (D.int 3)) ret)) fun t15 =>
 sel t15 (ret (D.bl false)) (kO (iterD quarters12) fun xs16 =>
 bnd (lcM (fun d17 =>
 bnd (x_is_within d17 (D.int 0) (D.int (8))) fun t18 =>
 ret (some t18)) xs16) fun t19 =>
 kO (bltD .all [t19]) ret)))
theorem s_is_striking (j : Nat) (h : 3 ≤ j + 1) (v0_value : D) : (kB (pr.at (j + 1)) b_is_striking [.val v0_value, .no, .no] (fun _ => ret D.non) (fun _ => bad) (fun _ => bad) ret) = x_is_striking v0_value := by
  unfold x_is_striking
  refine Eq.trans (b := (kO (isiD .tuple v0_value) fun t1 =>
 bnd (sel (!t1) (ret true) (kO (bltD .len [v0_value]) fun t2 =>
 kO (cmpD .ne t2 (D.int 3)) fun t3 =>
 bnd (sel t3 (ret true) (kO (ixD v0_value (D.int 2)) fun t4 =>
 kO (isiD .bool t4) fun t5 =>
 ret (!t5))) ret)) fun t6 =>
 sel t6 (ret (D.bl false)) (kO (ixD v0_value (D.int 0)) fun t7 =>
 bnd (callF (pr.at (j + 1)) "is_within" [t7, (D.int (12)), (D.int (24))]) fun t8 =>
 kO (D.tru t8) fun t9 =>
 bnd (sel (!t9) (ret true) (kO (ixD v0_value (D.int 0)) fun t10 =>
 kO (cmpD .notin t10 (D.tup [(D.int (12)), (D.int (24))])) ret)) fun t11 =>
 sel t11 (ret (D.bl false)) (kO (ixD v0_value (D.int 1)) fun quarters12 =>
 kO (isiD .tuple quarters12) fun t13 =>
 bnd (sel (!t13) (ret true) (kO (bltD .len [quarters12]) fun t14 =>
 kO (cmpD .ne t14 (D.int 3)) ret)) fun t15 =>
 sel t15 (ret (D.bl false)) (kO (iterD quarters12) fun xs16 =>
 bnd (lcM (fun d17 =>
 bnd (callF (pr.at (j + 1)) "is_within" [d17, (D.int 0), (D.int (8))]) fun t18 =>
 ret (some t18)) xs16) fun t19 =>
 kO (bltD .all [t19]) ret))) : M D)) ((by kernel_rfl)) ?_
  simp only [ret_bnd, c_is_within (j + 1) (by omega)]
theorem c_is_striking (i : Nat) (h : 4 ≤ i) (v0_value : D) : callF (pr.at i) "is_striking" [v0_value] = x_is_striking v0_value := by
  obtain ⟨j, rfl⟩ : ∃ j, i = j + 2 := ⟨i - 2, by omega⟩
  refine Eq.trans (b := (fun dr => callD (pr.at (j + 1)) 3 b_is_striking [v0_value] dr)) (by kernel_rfl) ?_
  exact (callD_run (Nat.le_of_ble_eq_true rfl)).trans (s_is_striking j (by omega) v0_value)
theorem v_is_striking (i : Nat) (h : 4 ≤ i) {β : Type} (v0_value : D) (k : D → M β) : (kO (fnOf (pr.at i) (.fn "is_striking")) fun q => bnd (callV q [v0_value]) k) = bnd (x_is_striking v0_value) k := by
  rw [← c_is_striking i h]
  obtain ⟨j, rfl⟩ : ∃ j, i = j + 2 := ⟨i - 2, by omega⟩
  kernel_rfl
def x_check_striking (v0_rule : D) : M D :=
 bnd (x_is_striking v0_rule) fun t1 =>
 bnd (x_check t1) fun t2 =>
 ret D.non
theorem s_check_striking (j : Nat) (h : 4 ≤ j + 1) (v0_rule : D) : (kB (pr.at (j + 1)) b_check_striking [.val v0_rule] (fun _ => ret D.non) (fun _ => bad) (fun _ => bad) ret) = x_check_striking v0_rule := by
  unfold x_check_striking
  refine Eq.trans (b := (bnd (callF (pr.at (j + 1)) "is_striking" [v0_rule]) fun t1 =>
 bnd (callF (pr.at (j + 1)) "check" [t1]) fun t2 =>
 ret D.non : M D)) ((by kernel_rfl)) ?_
  simp only [ret_bnd, c_check (j + 1) (by omega), c_is_striking (j + 1) (by omega)]
theorem c_check_striking (i : Nat) (h : 5 ≤ i) (v0_rule : D) : callF (pr.at i) "check_striking" [v0_rule] = x_check_striking v0_rule := by
  obtain ⟨j, rfl⟩ : ∃ j, i = j + 2 := ⟨i - 2, by omega⟩
  refine Eq.trans (b := (fun dr => callD (pr.at (j + 1)) 1 b_check_striking [v0_rule] dr)) (by kernel_rfl) ?_
  exact (callD_run (Nat.le_of_ble_eq_true rfl)).trans (s_check_striking j (by omega) v0_rule)
def x_hour_strokes (v0_hours : D) (v1_hour : D) : M D :=
 kO (binD .mod v1_hour v0_hours) fun strokes1 =>
 kO (cmpD .gt strokes1 (D.int 0)) fun t2 =>
 sel t2 (ret strokes1) (ret v0_hours)
theorem s_hour_strokes (j : Nat) (h : 1 ≤ j + 1) (v0_hours : D) (v1_hour : D) : (kB (pr.at (j + 1)) b_hour_strokes [.val v0_hours, .val v1_hour, .no] (fun _ => ret D.non) (fun _ => bad) (fun _ => bad) ret) = x_hour_strokes v0_hours v1_hour := by
  unfold x_hour_strokes
  refine Eq.trans (b := (kO (binD .mod v1_hour v0_hours) fun strokes1 =>
 kO (cmpD .gt strokes1 (D.int 0)) fun t2 =>
 bnd (sel t2 (ret strokes1) (ret v0_hours)) ret : M D)) ((by kernel_rfl)) ?_
  simp only [ret_bnd]
theorem c_hour_strokes (i : Nat) (h : 2 ≤ i) (v0_hours : D) (v1_hour : D) : callF (pr.at i) "hour_strokes" [v0_hours, v1_hour] = x_hour_strokes v0_hours v1_hour := by
  obtain ⟨j, rfl⟩ : ∃ j, i = j + 2 := ⟨i - 2, by omega⟩
  refine Eq.trans (b := (fun dr => callD (pr.at (j + 1)) 3 b_hour_strokes [v0_hours, v1_hour] dr)) (by kernel_rfl) ?_
  exact (callD_run (Nat.le_of_ble_eq_true rfl)).trans (s_hour_strokes j (by omega) v0_hours v1_hour)
def x_strokes_by (v0_rule : D) (v1_second : D) : M D :=
 kO (unD v0_rule) fun l1 =>
 unC l1 fun hours2 l3 =>
 unC l3 fun quarters4 l5 =>
 unC l5 fun halves6 l7 =>
 unN l7 (kO (binD .mod v1_second (D.int (900))) fun t8 =>
 kO (cmpD .ne t8 (D.int 0)) fun t9 =>
 sel t9 (ret (D.int 0)) (kO (binD .fdiv v1_second (D.int (900))) fun t10 =>
 kO (binD .mod t10 (D.int 4)) fun quarter11 =>
 kO (cmpD .eq quarter11 (D.int 0)) fun t12 =>
 sel t12 (kO (binD .fdiv v1_second (D.int (3600))) fun t13 =>
 kO (binD .mod t13 (D.int (24))) fun t14 =>
 x_hour_strokes hours2 t14) (kO (binD .sub quarter11 (D.int 1)) fun t15 =>
 kO (ixD quarters4 t15) fun t16 =>
 kO (blD halves6) fun t17 =>
 bnd (sel t17 (kO (cmpD .eq quarter11 (D.int 2)) fun t18 =>
 ret (D.bl t18)) (ret (D.bl false))) fun t19 =>
 kO (bltD .int [t19]) fun t20 =>
 kO (binD .add t16 t20) ret)))
theorem s_strokes_by (j : Nat) (h : 2 ≤ j + 1) (v0_rule : D) (v1_second : D) : (kB (pr.at (j + 1)) b_strokes_by [.val v0_rule, .val v1_second, .no, .no, .no, .no] (fun _ => ret D.non) (fun _ => bad) (fun _ => bad) ret) = x_strokes_by v0_rule v1_second := by
  unfold x_strokes_by
  refine Eq.trans (b := (kO (unD v0_rule) fun l1 =>
 unC l1 fun hours2 l3 =>
 unC l3 fun quarters4 l5 =>
 unC l5 fun halves6 l7 =>
 unN l7 (kO (binD .mod v1_second (D.int (900))) fun t8 =>
 kO (cmpD .ne t8 (D.int 0)) fun t9 =>
 sel t9 (ret (D.int 0)) (kO (binD .fdiv v1_second (D.int (900))) fun t10 =>
 kO (binD .mod t10 (D.int 4)) fun quarter11 =>
 kO (cmpD .eq quarter11 (D.int 0)) fun t12 =>
 sel t12 (kO (binD .fdiv v1_second (D.int (3600))) fun t13 =>
 kO (binD .mod t13 (D.int (24))) fun t14 =>
 bnd (callF (pr.at (j + 1)) "hour_strokes" [hours2, t14]) ret) (kO (binD .sub quarter11 (D.int 1)) fun t15 =>
 kO (ixD quarters4 t15) fun t16 =>
 kO (blD halves6) fun t17 =>
 bnd (sel t17 (kO (cmpD .eq quarter11 (D.int 2)) fun t18 =>
 ret (D.bl t18)) (ret (D.bl false))) fun t19 =>
 kO (bltD .int [t19]) fun t20 =>
 kO (binD .add t16 t20) ret))) : M D)) ((by kernel_rfl)) ?_
  simp only [ret_bnd, c_hour_strokes (j + 1) (by omega)]
theorem c_strokes_by (i : Nat) (h : 3 ≤ i) (v0_rule : D) (v1_second : D) : callF (pr.at i) "strokes_by" [v0_rule, v1_second] = x_strokes_by v0_rule v1_second := by
  obtain ⟨j, rfl⟩ : ∃ j, i = j + 2 := ⟨i - 2, by omega⟩
  refine Eq.trans (b := (fun dr => callD (pr.at (j + 1)) 6 b_strokes_by [v0_rule, v1_second] dr)) (by kernel_rfl) ?_
  exact (callD_run (Nat.le_of_ble_eq_true rfl)).trans (s_strokes_by j (by omega) v0_rule v1_second)
def x_strokes_at (v0_rule : D) (v1_second : D) : M D :=
 bnd (x_check_striking v0_rule) fun t1 =>
 bnd (x_is_count v1_second) fun t2 =>
 bnd (x_check t2) fun t3 =>
 x_strokes_by v0_rule v1_second
theorem s_strokes_at (j : Nat) (h : 5 ≤ j + 1) (v0_rule : D) (v1_second : D) : (kB (pr.at (j + 1)) b_strokes_at [.val v0_rule, .val v1_second] (fun _ => ret D.non) (fun _ => bad) (fun _ => bad) ret) = x_strokes_at v0_rule v1_second := by
  unfold x_strokes_at
  refine Eq.trans (b := (bnd (callF (pr.at (j + 1)) "check_striking" [v0_rule]) fun t1 =>
 bnd (callF (pr.at (j + 1)) "is_count" [v1_second]) fun t2 =>
 bnd (callF (pr.at (j + 1)) "check" [t2]) fun t3 =>
 bnd (callF (pr.at (j + 1)) "strokes_by" [v0_rule, v1_second]) ret : M D)) ((by kernel_rfl)) ?_
  simp only [ret_bnd, c_check (j + 1) (by omega), c_check_striking (j + 1) (by omega), c_is_count (j + 1) (by omega), c_strokes_by (j + 1) (by omega)]
theorem c_strokes_at (i : Nat) (h : 6 ≤ i) (v0_rule : D) (v1_second : D) : callF (pr.at i) "strokes_at" [v0_rule, v1_second] = x_strokes_at v0_rule v1_second := by
  obtain ⟨j, rfl⟩ : ∃ j, i = j + 2 := ⟨i - 2, by omega⟩
  refine Eq.trans (b := (fun dr => callD (pr.at (j + 1)) 2 b_strokes_at [v0_rule, v1_second] dr)) (by kernel_rfl) ?_
  exact (callD_run (Nat.le_of_ble_eq_true rfl)).trans (s_strokes_at j (by omega) v0_rule v1_second)
theorem v_strokes_at (i : Nat) (h : 6 ≤ i) {β : Type} (v0_rule : D) (v1_second : D) (k : D → M β) : (kO (fnOf (pr.at i) (.fn "strokes_at")) fun q => bnd (callV q [v0_rule, v1_second]) k) = bnd (x_strokes_at v0_rule v1_second) k := by
  rw [← c_strokes_at i h]
  obtain ⟨j, rfl⟩ : ∃ j, i = j + 2 := ⟨i - 2, by omega⟩
  kernel_rfl
def x_strokes_ahead (v0_rule : D) (v1_second : D) : M D :=
 kO (binD .fdiv v1_second (D.int (86400))) fun days1 =>
 kO (binD .mod v1_second (D.int (86400))) fun rest2 =>
 kO (rngD [(D.int 0), (D.int (86400)), (D.int (900))]) fun xs3 =>
 bnd (lcM (fun d4 =>
 bnd (x_strokes_by v0_rule d4) fun t5 =>
 ret (some t5)) xs3) fun t6 =>
 kO (bltD .sum [t6]) fun whole7 =>
 kO (binD .mul days1 whole7) fun t8 =>
 kO (rngD [(D.int 0), rest2, (D.int (900))]) fun xs9 =>
 bnd (lcM (fun d10 =>
 bnd (x_strokes_by v0_rule d10) fun t11 =>
 ret (some t11)) xs9) fun t12 =>
 kO (bltD .sum [t12]) fun t13 =>
 kO (binD .add t8 t13) ret
theorem s_strokes_ahead (j : Nat) (h : 3 ≤ j + 1) (v0_rule : D) (v1_second : D) : (kB (pr.at (j + 1)) b_strokes_ahead [.val v0_rule, .val v1_second, .no, .no, .no, .no] (fun _ => ret D.non) (fun _ => bad) (fun _ => bad) ret) = x_strokes_ahead v0_rule v1_second := by
  unfold x_strokes_ahead
  refine Eq.trans (b := (kO (binD .fdiv v1_second (D.int (86400))) fun days1 =>
 kO (binD .mod v1_second (D.int (86400))) fun rest2 =>
 kO (rngD [(D.int 0), (D.int (86400)), (D.int (900))]) fun xs3 =>
 bnd (lcM (fun d4 =>
 bnd (callF (pr.at (j + 1)) "strokes_by" [v0_rule, d4]) fun t5 =>
 ret (some t5)) xs3) fun t6 =>
 kO (bltD .sum [t6]) fun whole7 =>
 kO (binD .mul days1 whole7) fun t8 =>
 kO (rngD [(D.int 0), rest2, (D.int (900))]) fun xs9 =>
 bnd (lcM (fun d10 =>
 bnd (callF (pr.at (j + 1)) "strokes_by" [v0_rule, d10]) fun t11 =>
 ret (some t11)) xs9) fun t12 =>
 kO (bltD .sum [t12]) fun t13 =>
 kO (binD .add t8 t13) ret : M D)) ((by kernel_rfl)) ?_
  simp only [ret_bnd, c_strokes_by (j + 1) (by omega)]
theorem c_strokes_ahead (i : Nat) (h : 4 ≤ i) (v0_rule : D) (v1_second : D) : callF (pr.at i) "strokes_ahead" [v0_rule, v1_second] = x_strokes_ahead v0_rule v1_second := by
  obtain ⟨j, rfl⟩ : ∃ j, i = j + 2 := ⟨i - 2, by omega⟩
  refine Eq.trans (b := (fun dr => callD (pr.at (j + 1)) 6 b_strokes_ahead [v0_rule, v1_second] dr)) (by kernel_rfl) ?_
  exact (callD_run (Nat.le_of_ble_eq_true rfl)).trans (s_strokes_ahead j (by omega) v0_rule v1_second)
def x_strokes_between (v0_rule : D) (v1_a : D) (v2_b : D) : M D :=
 bnd (x_check_striking v0_rule) fun t1 =>
 bnd (x_is_within v1_a (D.int 0) (D.int (1000000000000))) fun t2 =>
 kO (blD t2) fun t3 =>
 bnd (sel t3 (x_is_within v2_b v1_a (D.int (1000000000000))) (ret (D.bl false))) fun t4 =>
 bnd (x_check t4) fun t5 =>
 bnd (x_strokes_ahead v0_rule v2_b) fun t6 =>
 bnd (x_strokes_ahead v0_rule v1_a) fun t7 =>
 kO (binD .sub t6 t7) ret
theorem s_strokes_between (j : Nat) (h : 5 ≤ j + 1) (v0_rule : D) (v1_a : D) (v2_b : D) : (kB (pr.at (j + 1)) b_strokes_between [.val v0_rule, .val v1_a, .val v2_b] (fun _ => ret D.non) (fun _ => bad) (fun _ => bad) ret) = x_strokes_between v0_rule v1_a v2_b := by
  unfold x_strokes_between
  refine Eq.trans (b := (bnd (callF (pr.at (j + 1)) "check_striking" [v0_rule]) fun t1 =>
 bnd (callF (pr.at (j + 1)) "is_within" [v1_a, (D.int 0), (D.int (1000000000000))]) fun t2 =>
 kO (blD t2) fun t3 =>
 bnd (sel t3 (bnd (callF (pr.at (j + 1)) "is_within" [v2_b, v1_a, (D.int (1000000000000))]) ret) (ret (D.bl false))) fun t4 =>
 bnd (callF (pr.at (j + 1)) "check" [t4]) fun t5 =>
 bnd (callF (pr.at (j + 1)) "strokes_ahead" [v0_rule, v2_b]) fun t6 =>
 bnd (callF (pr.at (j + 1)) "strokes_ahead" [v0_rule, v1_a]) fun t7 =>
 kO (binD .sub t6 t7) ret : M D)) ((by kernel_rfl)) ?_
  simp only [ret_bnd, c_check (j + 1) (by omega), c_check_striking (j + 1) (by omega), c_is_within (j + 1) (by omega), c_strokes_ahead (j + 1) (by omega)]
theorem c_strokes_between (i : Nat) (h : 6 ≤ i) (v0_rule : D) (v1_a : D) (v2_b : D) : callF (pr.at i) "strokes_between" [v0_rule, v1_a, v2_b] = x_strokes_between v0_rule v1_a v2_b := by
  obtain ⟨j, rfl⟩ : ∃ j, i = j + 2 := ⟨i - 2, by omega⟩
  refine Eq.trans (b := (fun dr => callD (pr.at (j + 1)) 3 b_strokes_between [v0_rule, v1_a, v2_b] dr)) (by kernel_rfl) ?_
  exact (callD_run (Nat.le_of_ble_eq_true rfl)).trans (s_strokes_between j (by omega) v0_rule v1_a v2_b)
def x_next_striking_0 (v2_at : D) (nx bk : D → M D) : M D :=
 kO (augD .add v2_at (D.int (900))) fun at1 =>
 nx at1
theorem s_next_striking_0 (j : Nat) (h : 5 ≤ j + 1) (v0_rule : D) (v2_at : D) (nx bk : Cr.Env → M D) : (kB (pr.at (j + 1)) b_next_striking_0 [.val v0_rule, .no, .val v2_at] nx nx bk ret) = x_next_striking_0 v2_at (fun s => nx ((fun s => [.val v0_rule, .no, .val s]) s)) (fun s => bk ((fun s => [.val v0_rule, .no, .val s]) s)) := by
  unfold x_next_striking_0
  refine Eq.trans (b := (kO (augD .add v2_at (D.int (900))) fun at1 =>
 nx [.val v0_rule, .no, .val at1] : M D)) ((by kernel_rfl)) ?_
  rfl
def x_next_striking_0c (v0_rule : D) (v2_at : D) (k : Bool → M D) : M D :=
 bnd (x_strokes_by v0_rule v2_at) fun t2 =>
 kO (cmpD .eq t2 (D.int 0)) fun t3 =>
 k t3
theorem s_next_striking_0c (j : Nat) (h : 5 ≤ j + 1) (v0_rule : D) (v2_at : D) (k : Bool → M D) : (kC (pr.at (j + 1)) (.cmp .eq (.call "strokes_by" (.cons (.var 0) (.cons (.var 2) .nil))) (.int 0)) [.val v0_rule, .no, .val v2_at] k) = x_next_striking_0c v0_rule v2_at k := by
  unfold x_next_striking_0c
  refine Eq.trans (b := (bnd (callF (pr.at (j + 1)) "strokes_by" [v0_rule, v2_at]) fun t2 =>
 kO (cmpD .eq t2 (D.int 0)) fun t3 =>
 k t3 : M D)) ((by kernel_rfl)) ?_
  simp only [c_strokes_by (j + 1) (by omega)]
theorem l_next_striking_0 (j : Nat) (h : 5 ≤ j + 1) (v0_rule : D) (v2_at : D) (K : Cr.Env → M D) : whlK (fun env k => kC (pr.at (j + 1)) (.cmp .eq (.call "strokes_by" (.cons (.var 0) (.cons (.var 2) .nil))) (.int 0)) env k) (fun env nx bk => kB (pr.at (j + 1)) b_next_striking_0 env nx nx bk ret) (pr.at (j + 1)).fuel [.val v0_rule, .no, .val v2_at] K = whlC (σ := D) (fun s k => x_next_striking_0c v0_rule s k) (fun s nx bk => x_next_striking_0 s nx bk) fuelN v2_at (fun s => K [.val v0_rule, .no, .val s]) :=
  whlC_eq (σ := D) (fun s => [.val v0_rule, .no, .val s]) (fun s k => s_next_striking_0c j h v0_rule s k) (fun s nx bk => s_next_striking_0 j h v0_rule s nx bk) fuelN v2_at K
def x_next_striking_1 (v2_at : D) : M D :=
 ret v2_at
theorem s_next_striking_1 (j : Nat) (h : 5 ≤ j + 1) (v0_rule : D) (v2_at : D) : (kB (pr.at (j + 1)) b_next_striking_1 [.val v0_rule, .no, .val v2_at] (fun _ => ret D.non) (fun _ => bad) (fun _ => bad) ret) = x_next_striking_1 v2_at := by
  unfold x_next_striking_1
  refine Eq.trans (b := (ret v2_at : M D)) ((by kernel_rfl)) ?_
  rfl
def x_next_striking (v0_rule : D) (v1_second : D) : M D :=
 bnd (x_check_striking v0_rule) fun t1 =>
 bnd (x_is_count v1_second) fun t2 =>
 bnd (x_check t2) fun t3 =>
 kO (binD .add v1_second (D.int (900))) fun t4 =>
 kO (binD .sub t4 (D.int 1)) fun t5 =>
 kO (binD .fdiv t5 (D.int (900))) fun t6 =>
 kO (binD .mul t6 (D.int (900))) fun at7 =>
 whlC (σ := D) (fun s9 k => x_next_striking_0c v0_rule s9 k) (fun s9 nx bk => x_next_striking_0 s9 nx bk) fuelN at7 fun s8 =>
 x_next_striking_1 s8
theorem g_next_striking (j : Nat) (b_next_striking_0 : CS) (b_next_striking_1 : CS) (v0_rule : D) (v1_second : D) : (kB (pr.at (j + 1)) (.ex (.call "check_striking" (.cons (.var 0) .nil)) (.ex (.call "check" (.cons (.call "is_count" (.cons (.var 1) .nil)) .nil)) (.asg (.nm 2) (.bin .mul (.bin .fdiv (.bin .sub (.bin .add (.var 1) (.glo "QUARTER")) (.int 1)) (.glo "QUARTER")) (.glo "QUARTER")) (.wip 1 (.whl (.cmp .eq (.call "strokes_by" (.cons (.var 0) (.cons (.var 2) .nil))) (.int 0)) b_next_striking_0 b_next_striking_1))))) [.val v0_rule, .val v1_second, .no] (fun _ => ret D.non) (fun _ => bad) (fun _ => bad) ret) = (bnd (callF (pr.at (j + 1)) "check_striking" [v0_rule]) fun t1 =>
 bnd (callF (pr.at (j + 1)) "is_count" [v1_second]) fun t2 =>
 bnd (callF (pr.at (j + 1)) "check" [t2]) fun t3 =>
 kO (binD .add v1_second (D.int (900))) fun t4 =>
 kO (binD .sub t4 (D.int 1)) fun t5 =>
 kO (binD .fdiv t5 (D.int (900))) fun t6 =>
 kO (binD .mul t6 (D.int (900))) fun at7 =>
 whlK (fun env k => kC (pr.at (j + 1)) (.cmp .eq (.call "strokes_by" (.cons (.var 0) (.cons (.var 2) .nil))) (.int 0)) env k) (fun env nx bk => kB (pr.at (j + 1)) b_next_striking_0 env nx nx bk ret) (pr.at (j + 1)).fuel [.val v0_rule, .no, .val at7] (fun env => kB (pr.at (j + 1)) b_next_striking_1 env (fun _ => ret D.non) (fun _ => bad) (fun _ => bad) ret) : M D) := by kernel_rfl
theorem s_next_striking (j : Nat) (h : 5 ≤ j + 1) (v0_rule : D) (v1_second : D) : (kB (pr.at (j + 1)) b_next_striking [.val v0_rule, .val v1_second, .no] (fun _ => ret D.non) (fun _ => bad) (fun _ => bad) ret) = x_next_striking v0_rule v1_second := by
  unfold x_next_striking
  refine Eq.trans (b := (bnd (callF (pr.at (j + 1)) "check_striking" [v0_rule]) fun t1 =>
 bnd (callF (pr.at (j + 1)) "is_count" [v1_second]) fun t2 =>
 bnd (callF (pr.at (j + 1)) "check" [t2]) fun t3 =>
 kO (binD .add v1_second (D.int (900))) fun t4 =>
 kO (binD .sub t4 (D.int 1)) fun t5 =>
 kO (binD .fdiv t5 (D.int (900))) fun t6 =>
 kO (binD .mul t6 (D.int (900))) fun at7 =>
 whlK (fun env k => kC (pr.at (j + 1)) (.cmp .eq (.call "strokes_by" (.cons (.var 0) (.cons (.var 2) .nil))) (.int 0)) env k) (fun env nx bk => kB (pr.at (j + 1)) b_next_striking_0 env nx nx bk ret) (pr.at (j + 1)).fuel [.val v0_rule, .no, .val at7] (fun env => kB (pr.at (j + 1)) b_next_striking_1 env (fun _ => ret D.non) (fun _ => bad) (fun _ => bad) ret) : M D)) (g_next_striking j b_next_striking_0 b_next_striking_1 v0_rule v1_second) ?_
  simp only [ret_bnd, c_check (j + 1) (by omega), c_check_striking (j + 1) (by omega), c_is_count (j + 1) (by omega), l_next_striking_0 j h, s_next_striking_1 j h]
theorem c_next_striking (i : Nat) (h : 6 ≤ i) (v0_rule : D) (v1_second : D) : callF (pr.at i) "next_striking" [v0_rule, v1_second] = x_next_striking v0_rule v1_second := by
  obtain ⟨j, rfl⟩ : ∃ j, i = j + 2 := ⟨i - 2, by omega⟩
  refine Eq.trans (b := (fun dr => callD (pr.at (j + 1)) 3 b_next_striking [v0_rule, v1_second] dr)) (by kernel_rfl) ?_
  exact (callD_run (Nat.le_of_ble_eq_true rfl)).trans (s_next_striking j (by omega) v0_rule v1_second)
theorem v_next_striking (i : Nat) (h : 6 ≤ i) {β : Type} (v0_rule : D) (v1_second : D) (k : D → M β) : (kO (fnOf (pr.at i) (.fn "next_striking")) fun q => bnd (callV q [v0_rule, v1_second]) k) = bnd (x_next_striking v0_rule v1_second) k := by
  rw [← c_next_striking i h]
  obtain ⟨j, rfl⟩ : ∃ j, i = j + 2 := ⟨i - 2, by omega⟩
  kernel_rfl
def x_is_striking_now (v0_rule : D) (v1_second : D) : M D :=
 bnd (x_check_striking v0_rule) fun t1 =>
 bnd (x_is_count v1_second) fun t2 =>
 bnd (x_check t2) fun t3 =>
 kO (binD .mod v1_second (D.int (900))) fun behind4 =>
 kO (binD .mod behind4 (D.int (2))) fun t5 =>
 kO (cmpD .eq t5 (D.int 0)) fun t6 =>
 kO (blD (D.bl t6)) fun t7 =>
 sel t7 (kO (binD .fdiv behind4 (D.int (2))) fun t8 =>
 kO (binD .sub v1_second behind4) fun t9 =>
 bnd (x_strokes_by v0_rule t9) fun t10 =>
 kO (cmpD .lt t8 t10) fun t11 =>
 ret (D.bl t11)) (ret (D.bl false))
theorem s_is_striking_now (j : Nat) (h : 5 ≤ j + 1) (v0_rule : D) (v1_second : D) : (kB (pr.at (j + 1)) b_is_striking_now [.val v0_rule, .val v1_second, .no] (fun _ => ret D.non) (fun _ => bad) (fun _ => bad) ret) = x_is_striking_now v0_rule v1_second := by
  unfold x_is_striking_now
  refine Eq.trans (b := (bnd (callF (pr.at (j + 1)) "check_striking" [v0_rule]) fun t1 =>
 bnd (callF (pr.at (j + 1)) "is_count" [v1_second]) fun t2 =>
 bnd (callF (pr.at (j + 1)) "check" [t2]) fun t3 =>
 kO (binD .mod v1_second (D.int (900))) fun behind4 =>
 kO (binD .mod behind4 (D.int (2))) fun t5 =>
 kO (cmpD .eq t5 (D.int 0)) fun t6 =>
 kO (blD (D.bl t6)) fun t7 =>
 bnd (sel t7 (kO (binD .fdiv behind4 (D.int (2))) fun t8 =>
 kO (binD .sub v1_second behind4) fun t9 =>
 bnd (callF (pr.at (j + 1)) "strokes_by" [v0_rule, t9]) fun t10 =>
 kO (cmpD .lt t8 t10) fun t11 =>
 ret (D.bl t11)) (ret (D.bl false))) ret : M D)) ((by kernel_rfl)) ?_
  simp only [ret_bnd, c_check (j + 1) (by omega), c_check_striking (j + 1) (by omega), c_is_count (j + 1) (by omega), c_strokes_by (j + 1) (by omega)]
theorem c_is_striking_now (i : Nat) (h : 6 ≤ i) (v0_rule : D) (v1_second : D) : callF (pr.at i) "is_striking_now" [v0_rule, v1_second] = x_is_striking_now v0_rule v1_second := by
  obtain ⟨j, rfl⟩ : ∃ j, i = j + 2 := ⟨i - 2, by omega⟩
  refine Eq.trans (b := (fun dr => callD (pr.at (j + 1)) 3 b_is_striking_now [v0_rule, v1_second] dr)) (by kernel_rfl) ?_
  exact (callD_run (Nat.le_of_ble_eq_true rfl)).trans (s_is_striking_now j (by omega) v0_rule v1_second)
theorem v_is_striking_now (i : Nat) (h : 6 ≤ i) {β : Type} (v0_rule : D) (v1_second : D) (k : D → M β) : (kO (fnOf (pr.at i) (.fn "is_striking_now")) fun q => bnd (callV q [v0_rule, v1_second]) k) = bnd (x_is_striking_now v0_rule v1_second) k := by
  rw [← c_is_striking_now i h]
  obtain ⟨j, rfl⟩ : ∃ j, i = j + 2 := ⟨i - 2, by omega⟩
  kernel_rfl
def x_hours_heard (v0_rule : D) (v1_n : D) : M D :=
 bnd (x_check_striking v0_rule) fun t1 =>
 bnd (x_is_count v1_n) fun t2 =>
 bnd (x_check t2) fun t3 =>
 kO (rngD [(D.int (24))]) fun xs4 =>
 lcM (fun d5 =>
 kO (ixD v0_rule (D.int 0)) fun t6 =>
 bnd (x_hour_strokes t6 d5) fun t7 =>
 kO (cmpD .eq t7 v1_n) fun t8 =>
 sel t8 (ret (some d5)) (ret none)) xs4
theorem s_hours_heard (j : Nat) (h : 5 ≤ j + 1) (v0_rule : D) (v1_n : D) : (kB (pr.at (j + 1)) b_hours_heard [.val v0_rule, .val v1_n, .no] (fun _ => ret D.non) (fun _ => bad) (fun _ => bad) ret) = x_hours_heard v0_rule v1_n := by
  unfold x_hours_heard
  refine Eq.trans (b := (bnd (callF (pr.at (j + 1)) "check_striking" [v0_rule]) fun t1 =>
 bnd (callF (pr.at (j + 1)) "is_count" [v1_n]) fun t2 =>
 bnd (callF (pr.at (j + 1)) "check" [t2]) fun t3 =>
 kO (rngD [(D.int (24))]) fun xs4 =>
 bnd (lcM (fun d5 =>
 kO (ixD v0_rule (D.int 0)) fun t6 =>
 bnd (callF (pr.at (j + 1)) "hour_strokes" [t6, d5]) fun t7 =>
 kO (cmpD .eq t7 v1_n) fun t8 =>
 sel t8 (ret (some d5)) (ret none)) xs4) ret : M D)) ((by kernel_rfl)) ?_
  simp only [ret_bnd, c_check (j + 1) (by omega), c_check_striking (j + 1) (by omega), c_hour_strokes (j + 1) (by omega), c_is_count (j + 1) (by omega)]
theorem c_hours_heard (i : Nat) (h : 6 ≤ i) (v0_rule : D) (v1_n : D) : callF (pr.at i) "hours_heard" [v0_rule, v1_n] = x_hours_heard v0_rule v1_n := by
  obtain ⟨j, rfl⟩ : ∃ j, i = j + 2 := ⟨i - 2, by omega⟩
  refine Eq.trans (b := (fun dr => callD (pr.at (j + 1)) 3 b_hours_heard [v0_rule, v1_n] dr)) (by kernel_rfl) ?_
  exact (callD_run (Nat.le_of_ble_eq_true rfl)).trans (s_hours_heard j (by omega) v0_rule v1_n)
theorem v_hours_heard (i : Nat) (h : 6 ≤ i) {β : Type} (v0_rule : D) (v1_n : D) (k : D → M β) : (kO (fnOf (pr.at i) (.fn "hours_heard")) fun q => bnd (callV q [v0_rule, v1_n]) k) = bnd (x_hours_heard v0_rule v1_n) k := by
  rw [← c_hours_heard i h]
  obtain ⟨j, rfl⟩ : ∃ j, i = j + 2 := ⟨i - 2, by omega⟩
  kernel_rfl
def x_check_wheel (v0_wheel : D) (v1_hour : D) : M D :=
 bnd (x_is_within v0_wheel (D.int 1) (D.int (12))) fun t1 =>
 kO (blD t1) fun t2 =>
 bnd (sel t2 (kO (binD .sub (D.int (24)) (D.int 1)) fun t3 =>
 x_is_within v1_hour (D.int 0) t3) (ret (D.bl false))) fun t4 =>
 bnd (x_check t4) fun t5 =>
 ret D.non
theorem s_check_wheel (j : Nat) (h : 3 ≤ j + 1) (v0_wheel : D) (v1_hour : D) : (kB (pr.at (j + 1)) b_check_wheel [.val v0_wheel, .val v1_hour] (fun _ => ret D.non) (fun _ => bad) (fun _ => bad) ret) = x_check_wheel v0_wheel v1_hour := by
  unfold x_check_wheel
  refine Eq.trans (b := (bnd (callF (pr.at (j + 1)) "is_within" [v0_wheel, (D.int 1), (D.int (12))]) fun t1 =>
 kO (blD t1) fun t2 =>
 bnd (sel t2 (kO (binD .sub (D.int (24)) (D.int 1)) fun t3 =>
 bnd (callF (pr.at (j + 1)) "is_within" [v1_hour, (D.int 0), t3]) ret) (ret (D.bl false))) fun t4 =>
 bnd (callF (pr.at (j + 1)) "check" [t4]) fun t5 =>
 ret D.non : M D)) ((by kernel_rfl)) ?_
  simp only [ret_bnd, c_check (j + 1) (by omega), c_is_within (j + 1) (by omega)]
theorem c_check_wheel (i : Nat) (h : 4 ≤ i) (v0_wheel : D) (v1_hour : D) : callF (pr.at i) "check_wheel" [v0_wheel, v1_hour] = x_check_wheel v0_wheel v1_hour := by
  obtain ⟨j, rfl⟩ : ∃ j, i = j + 2 := ⟨i - 2, by omega⟩
  refine Eq.trans (b := (fun dr => callD (pr.at (j + 1)) 2 b_check_wheel [v0_wheel, v1_hour] dr)) (by kernel_rfl) ?_
  exact (callD_run (Nat.le_of_ble_eq_true rfl)).trans (s_check_wheel j (by omega) v0_wheel v1_hour)
def x_off_by (v0_wheel : D) (v1_hour : D) : M D :=
 bnd (x_check_wheel v0_wheel v1_hour) fun t1 =>
 bnd (x_hour_strokes (D.int (12)) v1_hour) fun t2 =>
 kO (binD .sub v0_wheel t2) fun t3 =>
 kO (binD .mod t3 (D.int (12))) ret
theorem s_off_by (j : Nat) (h : 4 ≤ j + 1) (v0_wheel : D) (v1_hour : D) : (kB (pr.at (j + 1)) b_off_by [.val v0_wheel, .val v1_hour] (fun _ => ret D.non) (fun _ => bad) (fun _ => bad) ret) = x_off_by v0_wheel v1_hour := by
  unfold x_off_by
  refine Eq.trans (b := (bnd (callF (pr.at (j + 1)) "check_wheel" [v0_wheel, v1_hour]) fun t1 =>
 bnd (callF (pr.at (j + 1)) "hour_strokes" [(D.int (12)), v1_hour]) fun t2 =>
 kO (binD .sub v0_wheel t2) fun t3 =>
 kO (binD .mod t3 (D.int (12))) ret : M D)) ((by kernel_rfl)) ?_
  simp only [ret_bnd, c_check_wheel (j + 1) (by omega), c_hour_strokes (j + 1) (by omega)]
theorem c_off_by (i : Nat) (h : 5 ≤ i) (v0_wheel : D) (v1_hour : D) : callF (pr.at i) "off_by" [v0_wheel, v1_hour] = x_off_by v0_wheel v1_hour := by
  obtain ⟨j, rfl⟩ : ∃ j, i = j + 2 := ⟨i - 2, by omega⟩
  refine Eq.trans (b := (fun dr => callD (pr.at (j + 1)) 2 b_off_by [v0_wheel, v1_hour] dr)) (by kernel_rfl) ?_
  exact (callD_run (Nat.le_of_ble_eq_true rfl)).trans (s_off_by j (by omega) v0_wheel v1_hour)
theorem v_off_by (i : Nat) (h : 5 ≤ i) {β : Type} (v0_wheel : D) (v1_hour : D) (k : D → M β) : (kO (fnOf (pr.at i) (.fn "off_by")) fun q => bnd (callV q [v0_wheel, v1_hour]) k) = bnd (x_off_by v0_wheel v1_hour) k := by
  rw [← c_off_by i h]
  obtain ⟨j, rfl⟩ : ∃ j, i = j + 2 := ⟨i - 2, by omega⟩
  kernel_rfl
def x_strikes_to_set (v0_wheel : D) (v1_hour : D) : M D :=
 bnd (x_check_wheel v0_wheel v1_hour) fun t1 =>
 bnd (x_hour_strokes (D.int (12)) v1_hour) fun t2 =>
 kO (binD .sub t2 v0_wheel) fun t3 =>
 kO (binD .mod t3 (D.int (12))) ret
theorem s_strikes_to_set (j : Nat) (h : 4 ≤ j + 1) (v0_wheel : D) (v1_hour : D) : (kB (pr.at (j + 1)) b_strikes_to_set [.val v0_wheel, .val v1_hour] (fun _ => ret D.non) (fun _ => bad) (fun _ => bad) ret) = x_strikes_to_set v0_wheel v1_hour := by
  unfold x_strikes_to_set
  refine Eq.trans (b := (bnd (callF (pr.at (j + 1)) "check_wheel" [v0_wheel, v1_hour]) fun t1 =>
 bnd (callF (pr.at (j + 1)) "hour_strokes" [(D.int (12)), v1_hour]) fun t2 =>
 kO (binD .sub t2 v0_wheel) fun t3 =>
 kO (binD .mod t3 (D.int (12))) ret : M D)) ((by kernel_rfl)) ?_
  simp only [ret_bnd, c_check_wheel (j + 1) (by omega), c_hour_strokes (j + 1) (by omega)]
theorem c_strikes_to_set (i : Nat) (h : 5 ≤ i) (v0_wheel : D) (v1_hour : D) : callF (pr.at i) "strikes_to_set" [v0_wheel, v1_hour] = x_strikes_to_set v0_wheel v1_hour := by
  obtain ⟨j, rfl⟩ : ∃ j, i = j + 2 := ⟨i - 2, by omega⟩
  refine Eq.trans (b := (fun dr => callD (pr.at (j + 1)) 2 b_strikes_to_set [v0_wheel, v1_hour] dr)) (by kernel_rfl) ?_
  exact (callD_run (Nat.le_of_ble_eq_true rfl)).trans (s_strikes_to_set j (by omega) v0_wheel v1_hour)
theorem v_strikes_to_set (i : Nat) (h : 5 ≤ i) {β : Type} (v0_wheel : D) (v1_hour : D) (k : D → M β) : (kO (fnOf (pr.at i) (.fn "strikes_to_set")) fun q => bnd (callV q [v0_wheel, v1_hour]) k) = bnd (x_strikes_to_set v0_wheel v1_hour) k := by
  rw [← c_strikes_to_set i h]
  obtain ⟨j, rfl⟩ : ∃ j, i = j + 2 := ⟨i - 2, by omega⟩
  kernel_rfl
def x_strokes_a_day (v0_rule : D) : M D :=
 bnd (x_check_striking v0_rule) fun t1 =>
 x_strokes_ahead v0_rule (D.int (86400))
theorem s_strokes_a_day (j : Nat) (h : 5 ≤ j + 1) (v0_rule : D) : (kB (pr.at (j + 1)) b_strokes_a_day [.val v0_rule] (fun _ => ret D.non) (fun _ => bad) (fun _ => bad) ret) = x_strokes_a_day v0_rule := by
  unfold x_strokes_a_day
  refine Eq.trans (b := (bnd (callF (pr.at (j + 1)) "check_striking" [v0_rule]) fun t1 =>
 bnd (callF (pr.at (j + 1)) "strokes_ahead" [v0_rule, (D.int (86400))]) ret : M D)) ((by kernel_rfl)) ?_
  simp only [ret_bnd, c_check_striking (j + 1) (by omega), c_strokes_ahead (j + 1) (by omega)]
theorem c_strokes_a_day (i : Nat) (h : 6 ≤ i) (v0_rule : D) : callF (pr.at i) "strokes_a_day" [v0_rule] = x_strokes_a_day v0_rule := by
  obtain ⟨j, rfl⟩ : ∃ j, i = j + 2 := ⟨i - 2, by omega⟩
  refine Eq.trans (b := (fun dr => callD (pr.at (j + 1)) 1 b_strokes_a_day [v0_rule] dr)) (by kernel_rfl) ?_
  exact (callD_run (Nat.le_of_ble_eq_true rfl)).trans (s_strokes_a_day j (by omega) v0_rule)
theorem v_strokes_a_day (i : Nat) (h : 6 ≤ i) {β : Type} (v0_rule : D) (k : D → M β) : (kO (fnOf (pr.at i) (.fn "strokes_a_day")) fun q => bnd (callV q [v0_rule]) k) = bnd (x_strokes_a_day v0_rule) k := by
  rw [← c_strokes_a_day i h]
  obtain ⟨j, rfl⟩ : ∃ j, i = j + 2 := ⟨i - 2, by omega⟩
  kernel_rfl
def x_longest_silence (v0_rule : D) : M D :=
 bnd (x_check_striking v0_rule) fun t1 =>
 kO (rngD [(D.int 0), (D.int (86400)), (D.int (900))]) fun xs2 =>
 bnd (lcM (fun d3 =>
 bnd (x_strokes_by v0_rule d3) fun t4 =>
 kO (cmpD .gt t4 (D.int 0)) fun t5 =>
 sel t5 (ret (some d3)) (ret none)) xs2) fun begins6 =>
 kO (asI (D.int 1)) fun t7 =>
 kO (slD begins6 (some t7) none) fun t8 =>
 kO (seqD t8) fun t9 =>
 kO (ixD begins6 (D.int 0)) fun t10 =>
 kO (binD .add t10 (D.int (86400))) fun t11 =>
 kO (mkL (t9 ++ [t11])) fun t12 =>
 kO (iterD begins6) fun xs13 =>
 kO (iterD t12) fun xs14 =>
 bnd (lcM (fun d15 =>
 kO (unD d15) fun l16 =>
 unC l16 fun before17 l18 =>
 unC l18 fun after19 l20 =>
 unN l20 (kO (binD .sub after19 before17) fun t21 =>
 ret (some t21))) (zipL xs13 xs14)) fun t22 =>
 kO (bltD .max [t22]) ret
theorem s_longest_silence (j : Nat) (h : 5 ≤ j + 1) (v0_rule : D) : (kB (pr.at (j + 1)) b_longest_silence [.val v0_rule, .no, .no, .no, .no] (fun _ => ret D.non) (fun _ => bad) (fun _ => bad) ret) = x_longest_silence v0_rule := by
  unfold x_longest_silence
  refine Eq.trans (b := (bnd (callF (pr.at (j + 1)) "check_striking" [v0_rule]) fun t1 =>
 kO (rngD [(D.int 0), (D.int (86400)), (D.int (900))]) fun xs2 =>
 bnd (lcM (fun d3 =>
 bnd (callF (pr.at (j + 1)) "strokes_by" [v0_rule, d3]) fun t4 =>
 kO (cmpD .gt t4 (D.int 0)) fun t5 =>
 sel t5 (ret (some d3)) (ret none)) xs2) fun begins6 =>
 kO (asI (D.int 1)) fun t7 =>
 kO (slD begins6 (some t7) none) fun t8 =>
 kO (seqD t8) fun t9 =>
 kO (ixD begins6 (D.int 0)) fun t10 =>
 kO (binD .add t10 (D.int (86400))) fun t11 =>
 kO (mkL (t9 ++ [t11])) fun t12 =>
 kO (iterD begins6) fun xs13 =>
 kO (iterD t12) fun xs14 =>
 bnd (lcM (fun d15 =>
 kO (unD d15) fun l16 =>
 unC l16 fun before17 l18 =>
 unC l18 fun after19 l20 =>
 unN l20 (kO (binD .sub after19 before17) fun t21 =>
 ret (some t21))) (zipL xs13 xs14)) fun t22 =>
 kO (bltD .max [t22]) ret : M D)) ((by kernel_rfl)) ?_
  simp only [ret_bnd, c_check_striking (j + 1) (by omega), c_strokes_by (j + 1) (by omega)]
theorem c_longest_silence (i : Nat) (h : 6 ≤ i) (v0_rule : D) : callF (pr.at i) "longest_silence" [v0_rule] = x_longest_silence v0_rule := by
  obtain ⟨j, rfl⟩ : ∃ j, i = j + 2 := ⟨i - 2, by omega⟩
  refine Eq.trans (b := (fun dr => callD (pr.at (j + 1)) 5 b_longest_silence [v0_rule] dr)) (by kernel_rfl) ?_
  exact (callD_run (Nat.le_of_ble_eq_true rfl)).trans (s_longest_silence j (by omega) v0_rule)
theorem v_longest_silence (i : Nat) (h : 6 ≤ i) {β : Type} (v0_rule : D) (k : D → M β) : (kO (fnOf (pr.at i) (.fn "longest_silence")) fun q => bnd (callV q [v0_rule]) k) = bnd (x_longest_silence v0_rule) k := by
  rw [← c_longest_silence i h]
  obtain ⟨j, rfl⟩ : ∃ j, i = j + 2 := ⟨i - 2, by omega⟩
  kernel_rfl
def x__law_draws_2 (d : D) (v1_draws : D) (v5_number : D) (nx bk : D × D → M D) : M D :=
 kO (cmpD .gt v5_number (D.int 0)) fun t1 =>
 sel t1 (kO (lstD v1_draws) fun l2 =>
 kO (bltD .int [v5_number]) fun t3 =>
 kO (binD .mod t3 (D.int 997)) fun t4 =>
 kO (snocL l2 t4) fun draws5 =>
 kO (binD .fdiv v5_number (D.int 997)) fun number6 =>
 nx (draws5, number6)) (nx (v1_draws, v5_number))
theorem s__law_draws_2 (j : Nat) (h : 1 ≤ j + 1) (v0_script : D) (v1_draws : D) (v2_seed : D) (v5_number : D) (d : D) (nx bk : Cr.Env → M D) : (kP (.nm 4) d [.val v0_script, .own v1_draws, .val v2_seed, .no, .no, .val v5_number] fun env => kB (pr.at (j + 1)) b__law_draws_2 env nx nx bk ret) = x__law_draws_2 d v1_draws v5_number (fun s => nx ((fun s => [.val v0_script, .own s.1, .val v2_seed, .no, .no, .val s.2]) s)) (fun s => bk ((fun s => [.val v0_script, .own s.1, .val v2_seed, .no, .no, .val s.2]) s)) := by
  unfold x__law_draws_2
  refine Eq.trans (b := (kO (cmpD .gt v5_number (D.int 0)) fun t1 =>
 sel t1 (kO (lstD v1_draws) fun l2 =>
 kO (bltD .int [v5_number]) fun t3 =>
 kO (binD .mod t3 (D.int 997)) fun t4 =>
 kO (snocL l2 t4) fun draws5 =>
 kO (binD .fdiv v5_number (D.int 997)) fun number6 =>
 nx [.val v0_script, .own draws5, .val v2_seed, .no, .no, .val number6]) (nx [.val v0_script, .own v1_draws, .val v2_seed, .no, .no, .val v5_number]) : M D)) ((by kernel_rfl)) ?_
  rfl
theorem l__law_draws_2 (j : Nat) (h : 1 ≤ j + 1) (v0_script : D) (v1_draws : D) (v2_seed : D) (v5_number : D) (xs : List D) (K : Cr.Env → M D) : forK (fun d env nx bk => kP (.nm 4) d env fun env => kB (pr.at (j + 1)) b__law_draws_2 env nx nx bk ret) xs [.val v0_script, .own v1_draws, .val v2_seed, .no, .no, .val v5_number] K = forC (σ := D × D) (fun d s nx bk => x__law_draws_2 d s.1 s.2 nx bk) xs (v1_draws, v5_number) (fun s => K [.val v0_script, .own s.1, .val v2_seed, .no, .no, .val s.2]) :=
  forC_eq (σ := D × D) (fun s => [.val v0_script, .own s.1, .val v2_seed, .no, .no, .val s.2]) (fun d s nx bk => s__law_draws_2 j h v0_script s.1 v2_seed s.2 d nx bk) xs (v1_draws, v5_number) K
def x__law_draws_3 (v1_draws : D) (v2_seed : D) (nx bk : D × D → M D) : M D :=
 nx (v1_draws, v2_seed)
theorem s__law_draws_3 (j : Nat) (h : 1 ≤ j + 1) (v0_script : D) (v1_draws : D) (v2_seed : D) (v5_number : D) (nx bk : Cr.Env → M D) : (kB (pr.at (j + 1)) b__law_draws_3 [.val v0_script, .own v1_draws, .val v2_seed, .no, .no, .val v5_number] nx nx bk ret) = x__law_draws_3 v1_draws v2_seed (fun s => nx ((fun s => [.val v0_script, .own s.1, .val s.2, .no, .no, .no]) s)) (fun s => bk ((fun s => [.val v0_script, .own s.1, .val s.2, .no, .no, .no]) s)) := by
  unfold x__law_draws_3
  refine Eq.trans (b := (nx [.val v0_script, .own v1_draws, .val v2_seed, .no, .no, .no] : M D)) ((by kernel_rfl)) ?_
  rfl
def x__law_draws_1 (v1_draws : D) (v2_seed : D) (v5_number : D) (nx bk : D × D → M D) : M D :=
 kO (rngD [(D.int 60)]) fun xs1 =>
 forC (σ := D × D) (fun d s3 nx bk => x__law_draws_2 d s3.1 s3.2 nx bk) xs1 (v1_draws, v5_number) fun s2 =>
 x__law_draws_3 s2.1 v2_seed nx bk
theorem g__law_draws_1 (j : Nat) (b__law_draws_2 : CS) (b__law_draws_3 : CS) (v0_script : D) (v1_draws : D) (v2_seed : D) (v5_number : D) (nx bk : Cr.Env → M D) : (kB (pr.at (j + 1)) (.for_ (.nm 4) (.rng (.cons (.int 60) .nil)) b__law_draws_2 b__law_draws_3) [.val v0_script, .own v1_draws, .val v2_seed, .no, .no, .val v5_number] nx nx bk ret) = (kO (rngD [(D.int 60)]) fun xs1 =>
 forK (fun d env nx bk => kP (.nm 4) d env fun env => kB (pr.at (j + 1)) b__law_draws_2 env nx nx bk ret) xs1 [.val v0_script, .own v1_draws, .val v2_seed, .no, .no, .val v5_number] (fun env => kB (pr.at (j + 1)) b__law_draws_3 env nx nx bk ret) : M D) := by kernel_rfl
theorem s__law_draws_1 (j : Nat) (h : 1 ≤ j + 1) (v0_script : D) (v1_draws : D) (v2_seed : D) (v5_number : D) (nx bk : Cr.Env → M D) : (kB (pr.at (j + 1)) b__law_draws_1 [.val v0_script, .own v1_draws, .val v2_seed, .no, .no, .val v5_number] nx nx bk ret) = x__law_draws_1 v1_draws v2_seed v5_number (fun s => nx ((fun s => [.val v0_script, .own s.1, .val s.2, .no, .no, .no]) s)) (fun s => bk ((fun s => [.val v0_script, .own s.1, .val s.2, .no, .no, .no]) s)) := by
  unfold x__law_draws_1
  refine Eq.trans (b := (kO (rngD [(D.int 60)]) fun xs1 =>
 forK (fun d env nx bk => kP (.nm 4) d env fun env => kB (pr.at (j + 1)) b__law_draws_2 env nx nx bk ret) xs1 [.val v0_script, .own v1_draws, .val v2_seed, .no, .no, .val v5_number] (fun env => kB (pr.at (j + 1)) b__law_draws_3 env nx nx bk ret) : M D)) (g__law_draws_1 j b__law_draws_2 b__law_draws_3 v0_script v1_draws v2_seed v5_number nx bk) ?_
  simp only [ret_bnd, l__law_draws_2 j h, s__law_draws_3 j h]
def x__law_draws_0 (d : D) (v1_draws : D) (v2_seed : D) (nx bk : D × D → M D) : M D :=
 kO (bltD .int [d]) fun t1 =>
 kO (bltD .abs [t1]) fun number2 =>
 kO (binD .mul v2_seed (D.int 48271)) fun t3 =>
 kO (binD .add t3 number2) fun t4 =>
 kO (binD .add t4 (D.int 1)) fun t5 =>
 kO (bltD .int [t5]) fun t6 =>
 kO (binD .mod t6 (D.int 2147483647)) fun seed7 =>
 kO (binD .pow (D.int 10) (D.int 18)) fun t8 =>
 kO (cmpD .lt number2 t8) fun t9 =>
 sel t9 (kO (lstD v1_draws) fun l10 =>
 kO (bltD .int [number2]) fun t11 =>
 kO (binD .mod t11 (D.int 997)) fun t12 =>
 kO (snocL l10 t12) fun draws13 =>
 kO (lstD draws13) fun l14 =>
 kO (bltD .int [seed7]) fun t15 =>
 kO (binD .mod t15 (D.int 65521)) fun t16 =>
 kO (snocL l14 t16) fun draws17 =>
 x__law_draws_1 draws17 seed7 (D.int 0) nx bk) (x__law_draws_1 v1_draws seed7 number2 nx bk)
theorem g__law_draws_0 (j : Nat) (b__law_draws_1 : CS) (v0_script : D) (v1_draws : D) (v2_seed : D) (d : D) (nx bk : Cr.Env → M D) : (kP (.nm 3) d [.val v0_script, .own v1_draws, .val v2_seed, .no, .no, .no] fun env => kB (pr.at (j + 1)) (.asg (.nm 5) (.blt .abs (.cons (.blt .int (.cons (.var 3) .nil)) .nil)) (.asg (.nm 2) (.bin .mod (.blt .int (.cons (.bin .add (.bin .add (.bin .mul (.var 2) (.int 48271)) (.var 5)) (.int 1)) .nil)) (.int 2147483647)) (.ifs (.cmp .lt (.var 5) (.bin .pow (.int 10) (.int 18))) (.app 1 (.bin .mod (.blt .int (.cons (.var 5) .nil)) (.int 997)) (.app 1 (.bin .mod (.blt .int (.cons (.var 2) .nil)) (.int 65521)) (.asg (.nm 5) (.int 0) (.wip 3 .done)))) (.wip 3 .done) b__law_draws_1))) env nx nx bk ret) = (kO (bltD .int [d]) fun t1 =>
 kO (bltD .abs [t1]) fun number2 =>
 kO (binD .mul v2_seed (D.int 48271)) fun t3 =>
 kO (binD .add t3 number2) fun t4 =>
 kO (binD .add t4 (D.int 1)) fun t5 =>
 kO (bltD .int [t5]) fun t6 =>
 kO (binD .mod t6 (D.int 2147483647)) fun seed7 =>
 kO (binD .pow (D.int 10) (D.int 18)) fun t8 =>
 kO (cmpD .lt number2 t8) fun t9 =>
 sel t9 (kO (lstD v1_draws) fun l10 =>
 kO (bltD .int [number2]) fun t11 =>
 kO (binD .mod t11 (D.int 997)) fun t12 =>
 kO (snocL l10 t12) fun draws13 =>
 kO (lstD draws13) fun l14 =>
 kO (bltD .int [seed7]) fun t15 =>
 kO (binD .mod t15 (D.int 65521)) fun t16 =>
 kO (snocL l14 t16) fun draws17 =>
 kB (pr.at (j + 1)) b__law_draws_1 [.val v0_script, .own draws17, .val seed7, .no, .no, .val (D.int 0)] nx nx bk ret) (kB (pr.at (j + 1)) b__law_draws_1 [.val v0_script, .own v1_draws, .val seed7, .no, .no, .val number2] nx nx bk ret) : M D) := by kernel_rfl
theorem s__law_draws_0 (j : Nat) (h : 1 ≤ j + 1) (v0_script : D) (v1_draws : D) (v2_seed : D) (d : D) (nx bk : Cr.Env → M D) : (kP (.nm 3) d [.val v0_script, .own v1_draws, .val v2_seed, .no, .no, .no] fun env => kB (pr.at (j + 1)) b__law_draws_0 env nx nx bk ret) = x__law_draws_0 d v1_draws v2_seed (fun s => nx ((fun s => [.val v0_script, .own s.1, .val s.2, .no, .no, .no]) s)) (fun s => bk ((fun s => [.val v0_script, .own s.1, .val s.2, .no, .no, .no]) s)) := by
  unfold x__law_draws_0
  refine Eq.trans (b := (kO (bltD .int [d]) fun t1 =>
 kO (bltD .abs [t1]) fun number2 =>
 kO (binD .mul v2_seed (D.int 48271)) fun t3 =>
 kO (binD .add t3 number2) fun t4 =>
 kO (binD .add t4 (D.int 1)) fun t5 =>
 kO (bltD .int [t5]) fun t6 =>
 kO (binD .mod t6 (D.int 2147483647)) fun seed7 =>
 kO (binD .pow (D.int 10) (D.int 18)) fun t8 =>
 kO (cmpD .lt number2 t8) fun t9 =>
 sel t9 (kO (lstD v1_draws) fun l10 =>
 kO (bltD .int [number2]) fun t11 =>
 kO (binD .mod t11 (D.int 997)) fun t12 =>
 kO (snocL l10 t12) fun draws13 =>
 kO (lstD draws13) fun l14 =>
 kO (bltD .int [seed7]) fun t15 =>
 kO (binD .mod t15 (D.int 65521)) fun t16 =>
 kO (snocL l14 t16) fun draws17 =>
 kB (pr.at (j + 1)) b__law_draws_1 [.val v0_script, .own draws17, .val seed7, .no, .no, .val (D.int 0)] nx nx bk ret) (kB (pr.at (j + 1)) b__law_draws_1 [.val v0_script, .own v1_draws, .val seed7, .no, .no, .val number2] nx nx bk ret) : M D)) (g__law_draws_0 j b__law_draws_1 v0_script v1_draws v2_seed d nx bk) ?_
  simp only [ret_bnd, s__law_draws_1 j h]
theorem l__law_draws_0 (j : Nat) (h : 1 ≤ j + 1) (v0_script : D) (v1_draws : D) (v2_seed : D) (xs : List D) (K : Cr.Env → M D) : forK (fun d env nx bk => kP (.nm 3) d env fun env => kB (pr.at (j + 1)) b__law_draws_0 env nx nx bk ret) xs [.val v0_script, .own v1_draws, .val v2_seed, .no, .no, .no] K = forC (σ := D × D) (fun d s nx bk => x__law_draws_0 d s.1 s.2 nx bk) xs (v1_draws, v2_seed) (fun s => K [.val v0_script, .own s.1, .val s.2, .no, .no, .no]) :=
  forC_eq (σ := D × D) (fun s => [.val v0_script, .own s.1, .val s.2, .no, .no, .no]) (fun d s nx bk => s__law_draws_0 j h v0_script s.1 s.2 d nx bk) xs (v1_draws, v2_seed) K
def x__law_draws_5 (d : D) (v1_draws : D) (v2_seed : D) (nx bk : D × D → M D) : M D :=
 kO (binD .mul v2_seed (D.int 48271)) fun t1 =>
 kO (binD .add t1 (D.int 69621)) fun t2 =>
 kO (bltD .int [t2]) fun t3 =>
 kO (binD .mod t3 (D.int 2147483647)) fun seed4 =>
 kO (lstD v1_draws) fun l5 =>
 kO (binD .fdiv seed4 (D.int 5)) fun t6 =>
 kO (snocL l5 t6) fun draws7 =>
 nx (draws7, seed4)
theorem s__law_draws_5 (j : Nat) (h : 1 ≤ j + 1) (v1_draws : D) (v2_seed : D) (d : D) (nx bk : Cr.Env → M D) : (kP (.nm 4) d [.no, .own v1_draws, .val v2_seed, .no, .no, .no] fun env => kB (pr.at (j + 1)) b__law_draws_5 env nx nx bk ret) = x__law_draws_5 d v1_draws v2_seed (fun s => nx ((fun s => [.no, .own s.1, .val s.2, .no, .no, .no]) s)) (fun s => bk ((fun s => [.no, .own s.1, .val s.2, .no, .no, .no]) s)) := by
  unfold x__law_draws_5
  refine Eq.trans (b := (kO (binD .mul v2_seed (D.int 48271)) fun t1 =>
 kO (binD .add t1 (D.int 69621)) fun t2 =>
 kO (bltD .int [t2]) fun t3 =>
 kO (binD .mod t3 (D.int 2147483647)) fun seed4 =>
 kO (lstD v1_draws) fun l5 =>
 kO (binD .fdiv seed4 (D.int 5)) fun t6 =>
 kO (snocL l5 t6) fun draws7 =>
 nx [.no, .own draws7, .val seed4, .no, .no, .no] : M D)) ((by kernel_rfl)) ?_
  rfl
theorem l__law_draws_5 (j : Nat) (h : 1 ≤ j + 1) (v1_draws : D) (v2_seed : D) (xs : List D) (K : Cr.Env → M D) : forK (fun d env nx bk => kP (.nm 4) d env fun env => kB (pr.at (j + 1)) b__law_draws_5 env nx nx bk ret) xs [.no, .own v1_draws, .val v2_seed, .no, .no, .no] K = forC (σ := D × D) (fun d s nx bk => x__law_draws_5 d s.1 s.2 nx bk) xs (v1_draws, v2_seed) (fun s => K [.no, .own s.1, .val s.2, .no, .no, .no]) :=
  forC_eq (σ := D × D) (fun s => [.no, .own s.1, .val s.2, .no, .no, .no]) (fun d s nx bk => s__law_draws_5 j h s.1 s.2 d nx bk) xs (v1_draws, v2_seed) K
def x__law_draws_6 (v1_draws : D) : M D :=
 kO (lrevD v1_draws) ret
theorem s__law_draws_6 (j : Nat) (h : 1 ≤ j + 1) (v1_draws : D) (v2_seed : D) : (kB (pr.at (j + 1)) b__law_draws_6 [.no, .own v1_draws, .val v2_seed, .no, .no, .no] (fun _ => ret D.non) (fun _ => bad) (fun _ => bad) ret) = x__law_draws_6 v1_draws := by
  unfold x__law_draws_6
  refine Eq.trans (b := (kO (lrevD v1_draws) ret : M D)) ((by kernel_rfl)) ?_
  simp only [ret_bnd]
def x__law_draws_4 (v1_draws : D) (v2_seed : D) : M D :=
 kO (rngD [(D.int 700)]) fun xs1 =>
 forC (σ := D × D) (fun d s3 nx bk => x__law_draws_5 d s3.1 s3.2 nx bk) xs1 (v1_draws, v2_seed) fun s2 =>
 x__law_draws_6 s2.1
theorem g__law_draws_4 (j : Nat) (b__law_draws_5 : CS) (b__law_draws_6 : CS) (v0_script : D) (v1_draws : D) (v2_seed : D) : (kB (pr.at (j + 1)) (.wip 0 (.for_ (.nm 4) (.rng (.cons (.int 700) .nil)) b__law_draws_5 b__law_draws_6)) [.val v0_script, .own v1_draws, .val v2_seed, .no, .no, .no] (fun _ => ret D.non) (fun _ => bad) (fun _ => bad) ret) = (kO (rngD [(D.int 700)]) fun xs1 =>
 forK (fun d env nx bk => kP (.nm 4) d env fun env => kB (pr.at (j + 1)) b__law_draws_5 env nx nx bk ret) xs1 [.no, .own v1_draws, .val v2_seed, .no, .no, .no] (fun env => kB (pr.at (j + 1)) b__law_draws_6 env (fun _ => ret D.non) (fun _ => bad) (fun _ => bad) ret) : M D) := by kernel_rfl
theorem s__law_draws_4 (j : Nat) (h : 1 ≤ j + 1) (v0_script : D) (v1_draws : D) (v2_seed : D) : (kB (pr.at (j + 1)) b__law_draws_4 [.val v0_script, .own v1_draws, .val v2_seed, .no, .no, .no] (fun _ => ret D.non) (fun _ => bad) (fun _ => bad) ret) = x__law_draws_4 v1_draws v2_seed := by
  unfold x__law_draws_4
  refine Eq.trans (b := (kO (rngD [(D.int 700)]) fun xs1 =>
 forK (fun d env nx bk => kP (.nm 4) d env fun env => kB (pr.at (j + 1)) b__law_draws_5 env nx nx bk ret) xs1 [.no, .own v1_draws, .val v2_seed, .no, .no, .no] (fun env => kB (pr.at (j + 1)) b__law_draws_6 env (fun _ => ret D.non) (fun _ => bad) (fun _ => bad) ret) : M D)) (g__law_draws_4 j b__law_draws_5 b__law_draws_6 v0_script v1_draws v2_seed) ?_
  simp only [ret_bnd, l__law_draws_5 j h, s__law_draws_6 j h]
def x__law_draws (v0_script : D) : M D :=
 kO (iterD v0_script) fun xs1 =>
 forC (σ := D × D) (fun d s3 nx bk => x__law_draws_0 d s3.1 s3.2 nx bk) xs1 ((D.lst []), (D.int 11)) fun s2 =>
 x__law_draws_4 s2.1 s2.2
theorem g__law_draws (j : Nat) (b__law_draws_0 : CS) (b__law_draws_4 : CS) (v0_script : D) : (kB (pr.at (j + 1)) (.own 1 (.lst .nil) (.asg (.nm 2) (.int 11) (.for_ (.nm 3) (.cons (.var 0) .nil) b__law_draws_0 b__law_draws_4))) [.val v0_script, .no, .no, .no, .no, .no] (fun _ => ret D.non) (fun _ => bad) (fun _ => bad) ret) = (kO (iterD v0_script) fun xs1 =>
 forK (fun d env nx bk => kP (.nm 3) d env fun env => kB (pr.at (j + 1)) b__law_draws_0 env nx nx bk ret) xs1 [.val v0_script, .own (D.lst []), .val (D.int 11), .no, .no, .no] (fun env => kB (pr.at (j + 1)) b__law_draws_4 env (fun _ => ret D.non) (fun _ => bad) (fun _ => bad) ret) : M D) := by kernel_rfl
theorem s__law_draws (j : Nat) (h : 1 ≤ j + 1) (v0_script : D) : (kB (pr.at (j + 1)) b__law_draws [.val v0_script, .no, .no, .no, .no, .no] (fun _ => ret D.non) (fun _ => bad) (fun _ => bad) ret) = x__law_draws v0_script := by
  unfold x__law_draws
  refine Eq.trans (b := (kO (iterD v0_script) fun xs1 =>
 forK (fun d env nx bk => kP (.nm 3) d env fun env => kB (pr.at (j + 1)) b__law_draws_0 env nx nx bk ret) xs1 [.val v0_script, .own (D.lst []), .val (D.int 11), .no, .no, .no] (fun env => kB (pr.at (j + 1)) b__law_draws_4 env (fun _ => ret D.non) (fun _ => bad) (fun _ => bad) ret) : M D)) (g__law_draws j b__law_draws_0 b__law_draws_4 v0_script) ?_
  simp only [ret_bnd, l__law_draws_0 j h, s__law_draws_4 j h]
theorem c__law_draws (i : Nat) (h : 2 ≤ i) (v0_script : D) : callF (pr.at i) "_law_draws" [v0_script] = x__law_draws v0_script := by
  obtain ⟨j, rfl⟩ : ∃ j, i = j + 2 := ⟨i - 2, by omega⟩
  refine Eq.trans (b := (fun dr => callD (pr.at (j + 1)) 6 b__law_draws [v0_script] dr)) (by kernel_rfl) ?_
  exact (callD_run (Nat.le_of_ble_eq_true rfl)).trans (s__law_draws j (by omega) v0_script)
def x__law_take (v1_bound : D) : M D :=
 bnd (dlenM) fun t1 =>
 kO (cmpD .eq t1 (D.int 0)) fun t2 =>
 sel t2 (ret (D.int 0)) (bnd (dpopM) fun t3 =>
 kO (bltD .int [t3]) fun t4 =>
 kO (binD .mod t4 v1_bound) ret)
theorem s__law_take (j : Nat) (h : 1 ≤ j + 1) (v1_bound : D) : (kB (pr.at (j + 1)) b__law_take [.val D.drw, .val v1_bound] (fun _ => ret D.non) (fun _ => bad) (fun _ => bad) ret) = x__law_take v1_bound := by
  unfold x__law_take
  refine Eq.trans (b := (bnd (dlenM) fun t1 =>
 kO (cmpD .eq t1 (D.int 0)) fun t2 =>
 sel t2 (ret (D.int 0)) (bnd (dpopM) fun t3 =>
 kO (bltD .int [t3]) fun t4 =>
 kO (binD .mod t4 v1_bound) ret) : M D)) ((by kernel_rfl)) ?_
  simp only [ret_bnd]
theorem c__law_take (i : Nat) (h : 2 ≤ i) (v1_bound : D) : callF (pr.at i) "_law_take" [D.drw, v1_bound] = x__law_take v1_bound := by
  obtain ⟨j, rfl⟩ : ∃ j, i = j + 2 := ⟨i - 2, by omega⟩
  refine Eq.trans (b := (fun dr => callD (pr.at (j + 1)) 2 b__law_take [D.drw, v1_bound] dr)) (by kernel_rfl) ?_
  exact (callD_run (Nat.le_of_ble_eq_true rfl)).trans (s__law_take j (by omega) v1_bound)
def x__law_pick (v1_some : D) : M D :=
 kO (bltD .len [v1_some]) fun t1 =>
 bnd (x__law_take t1) fun t2 =>
 kO (ixD v1_some t2) ret
theorem s__law_pick (j : Nat) (h : 2 ≤ j + 1) (v1_some : D) : (kB (pr.at (j + 1)) b__law_pick [.val D.drw, .val v1_some] (fun _ => ret D.non) (fun _ => bad) (fun _ => bad) ret) = x__law_pick v1_some := by
  unfold x__law_pick
  refine Eq.trans (b := (kO (bltD .len [v1_some]) fun t1 =>
 bnd (callF (pr.at (j + 1)) "_law_take" [D.drw, t1]) fun t2 =>
 kO (ixD v1_some t2) ret : M D)) ((by kernel_rfl)) ?_
  simp only [ret_bnd, c__law_take (j + 1) (by omega)]
theorem c__law_pick (i : Nat) (h : 3 ≤ i) (v1_some : D) : callF (pr.at i) "_law_pick" [D.drw, v1_some] = x__law_pick v1_some := by
  obtain ⟨j, rfl⟩ : ∃ j, i = j + 2 := ⟨i - 2, by omega⟩
  refine Eq.trans (b := (fun dr => callD (pr.at (j + 1)) 2 b__law_pick [D.drw, v1_some] dr)) (by kernel_rfl) ?_
  exact (callD_run (Nat.le_of_ble_eq_true rfl)).trans (s__law_pick j (by omega) v1_some)
def x__law_same (i : Nat) (v0_actual : D) (v1_due : D) : M D := fun dr => callD (pr.at i) 4 b__law_same [v0_actual, v1_due] dr
theorem c__law_same (i : Nat) (h : 1 ≤ i) (v0_actual : D) (v1_due : D) : callF (pr.at i) "_law_same" [v0_actual, v1_due] = x__law_same (i - 1) v0_actual v1_due := by
  obtain ⟨j, rfl⟩ : ∃ j, i = j + 1 := ⟨i - 1, by omega⟩
  kernel_rfl
def x__law_same_0 (i : Nat) (v0_actual : D) (v1_due : D) : M D :=
 kO (isiD .dict v1_due) fun t1 =>
 sel t1 (kO (isiD .dict v0_actual) fun t2 =>
 bnd (sel (!t2) (ret true) (kO (bltD .len [v0_actual]) fun t3 =>
 kO (bltD .len [v1_due]) fun t4 =>
 kO (cmpD .ne t3 t4) ret)) fun t5 =>
 sel t5 (ret (D.bl false)) (kO (iterD v1_due) fun xs6 =>
 bnd (lcM (fun d7 =>
 kO (cmpD .notin d7 v0_actual) fun t8 =>
 bnd (sel t8 (ret true) (kO (ixD v0_actual d7) fun t9 =>
 kO (ixD v1_due d7) fun t10 =>
 bnd (x__law_same (i - 1) t9 t10) fun t11 =>
 kO (D.tru t11) fun t12 =>
 ret (!t12))) fun t13 =>
 sel t13 (ret (some d7)) (ret none)) xs6) fun t14 =>
 kO (cmpD .eq t14 (D.lst [])) fun t15 =>
 ret (D.bl t15))) (kO (isiD .bool v1_due) fun t16 =>
 kO (isiD .bool v0_actual) fun t17 =>
 kO (cmpD .ne (D.bl t16) (D.bl t17)) fun t18 =>
 sel t18 (ret (D.bl false)) (kO (isiD .int v1_due) fun t19 =>
 kO (isiD .int v0_actual) fun t20 =>
 kO (cmpD .ne (D.bl t19) (D.bl t20)) fun t21 =>
 bnd (sel t21 (ret true) (kO (isiD .str v1_due) fun t22 =>
 kO (isiD .str v0_actual) fun t23 =>
 kO (cmpD .ne (D.bl t22) (D.bl t23)) ret)) fun t24 =>
 sel t24 (ret (D.bl false)) (kO (cmpD .eq v0_actual v1_due) fun t25 =>
 ret (D.bl t25))))
theorem s__law_same_0 (j : Nat) (h : 1 ≤ j + 1) (v0_actual : D) (v1_due : D) : (kB (pr.at (j + 1)) b__law_same_0 [.val v0_actual, .val v1_due, .no, .no] (fun _ => ret D.non) (fun _ => bad) (fun _ => bad) ret) = x__law_same_0 (j + 1) v0_actual v1_due := by
  unfold x__law_same_0
  refine Eq.trans (b := (kO (isiD .dict v1_due) fun t1 =>
 sel t1 (kO (isiD .dict v0_actual) fun t2 =>
 bnd (sel (!t2) (ret true) (kO (bltD .len [v0_actual]) fun t3 =>
 kO (bltD .len [v1_due]) fun t4 =>
 kO (cmpD .ne t3 t4) ret)) fun t5 =>
 sel t5 (ret (D.bl false)) (kO (iterD v1_due) fun xs6 =>
 bnd (lcM (fun d7 =>
 kO (cmpD .notin d7 v0_actual) fun t8 =>
 bnd (sel t8 (ret true) (kO (ixD v0_actual d7) fun t9 =>
 kO (ixD v1_due d7) fun t10 =>
 bnd (callF (pr.at (j + 1)) "_law_same" [t9, t10]) fun t11 =>
 kO (D.tru t11) fun t12 =>
 ret (!t12))) fun t13 =>
 sel t13 (ret (some d7)) (ret none)) xs6) fun t14 =>
 kO (cmpD .eq t14 (D.lst [])) fun t15 =>
 ret (D.bl t15))) (kO (isiD .bool v1_due) fun t16 =>
 kO (isiD .bool v0_actual) fun t17 =>
 kO (cmpD .ne (D.bl t16) (D.bl t17)) fun t18 =>
 sel t18 (ret (D.bl false)) (kO (isiD .int v1_due) fun t19 =>
 kO (isiD .int v0_actual) fun t20 =>
 kO (cmpD .ne (D.bl t19) (D.bl t20)) fun t21 =>
 bnd (sel t21 (ret true) (kO (isiD .str v1_due) fun t22 =>
 kO (isiD .str v0_actual) fun t23 =>
 kO (cmpD .ne (D.bl t22) (D.bl t23)) ret)) fun t24 =>
 sel t24 (ret (D.bl false)) (kO (cmpD .eq v0_actual v1_due) fun t25 =>
 ret (D.bl t25)))) : M D)) ((by kernel_rfl)) ?_
  simp only [ret_bnd, c__law_same (j + 1) (by omega)]
def x__law_same_1 (i : Nat) (v0_actual : D) (v1_due : D) (d : D) (nx bk : Unit → M D) : M D :=
 kO (ixD v0_actual d) fun t1 =>
 kO (ixD v1_due d) fun t2 =>
 bnd (x__law_same (i - 1) t1 t2) fun t3 =>
 kO (D.tru t3) fun t4 =>
 sel (!t4) (ret (D.bl false)) (nx ())
theorem s__law_same_1 (j : Nat) (h : 1 ≤ j + 1) (v0_actual : D) (v1_due : D) (d : D) (nx bk : Cr.Env → M D) : (kP (.nm 2) d [.val v0_actual, .val v1_due, .no, .no] fun env => kB (pr.at (j + 1)) b__law_same_1 env nx nx bk ret) = x__law_same_1 (j + 1) v0_actual v1_due d (fun s => nx ((fun s => [.val v0_actual, .val v1_due, .no, .no]) s)) (fun s => bk ((fun s => [.val v0_actual, .val v1_due, .no, .no]) s)) := by
  unfold x__law_same_1
  refine Eq.trans (b := (kO (ixD v0_actual d) fun t1 =>
 kO (ixD v1_due d) fun t2 =>
 bnd (callF (pr.at (j + 1)) "_law_same" [t1, t2]) fun t3 =>
 kO (D.tru t3) fun t4 =>
 sel (!t4) (ret (D.bl false)) (nx [.val v0_actual, .val v1_due, .no, .no]) : M D)) ((by kernel_rfl)) ?_
  simp only [c__law_same (j + 1) (by omega)]
theorem l__law_same_1 (j : Nat) (h : 1 ≤ j + 1) (v0_actual : D) (v1_due : D) (xs : List D) (K : Cr.Env → M D) : forK (fun d env nx bk => kP (.nm 2) d env fun env => kB (pr.at (j + 1)) b__law_same_1 env nx nx bk ret) xs [.val v0_actual, .val v1_due, .no, .no] K = forC (σ := Unit) (fun d s nx bk => x__law_same_1 (j + 1) v0_actual v1_due d nx bk) xs () (fun s => K [.val v0_actual, .val v1_due, .no, .no]) :=
  forC_eq (σ := Unit) (fun s => [.val v0_actual, .val v1_due, .no, .no]) (fun d s nx bk => s__law_same_1 j h v0_actual v1_due d nx bk) xs () K
def x__law_same_2 (i : Nat)  : M D :=
 ret (D.bl true)
theorem s__law_same_2 (j : Nat) (h : 1 ≤ j + 1) (v0_actual : D) (v1_due : D) : (kB (pr.at (j + 1)) b__law_same_2 [.val v0_actual, .val v1_due, .no, .no] (fun env => kB (pr.at i) b__law_same_0 env (fun _ => ret D.non) (fun _ => bad) (fun _ => bad) ret) (fun _ => bad) (fun _ => bad) ret) = x__law_same_2 (j + 1) := by
  unfold x__law_same_2
  refine Eq.trans (b := (ret (D.bl true) : M D)) ((by kernel_rfl)) ?_
  rfl
theorem g__law_same (j : Nat) (b__law_same_1 : CS) (b__law_same_2 : CS) (b__law_same_0 : CS) (v0_actual : D) (v1_due : D) : (kB (pr.at (j + 1)) (.ifs (.isN (.var 1)) (.ret (.isN (.var 0))) .done (.ifs (.or (.cons (.isi (.var 1) .tuple) (.cons (.isi (.var 1) .list) .nil))) (.ifs (.or (.cons (.cmp .ne (.isi (.var 1) .tuple) (.isi (.var 0) .tuple)) (.cons (.cmp .ne (.isi (.var 1) .list) (.isi (.var 0) .list)) .nil))) (.ret (.bl false)) .done (.ifs (.cmp .ne (.blt .len (.cons (.var 0) .nil)) (.blt .len (.cons (.var 1) .nil))) (.ret (.bl false)) .done (.for_ (.nm 2) (.rng (.cons (.blt .len (.cons (.var 1) .nil)) .nil)) b__law_same_1 b__law_same_2))) .done b__law_same_0)) [.val v0_actual, .val v1_due, .no, .no] (fun _ => ret D.non) (fun _ => bad) (fun _ => bad) ret) = (sel (isNone v1_due) (ret (D.bl (isNone v0_actual))) (kO (isiD .tuple v1_due) fun t1 =>
 bnd (sel t1 (ret true) (kO (isiD .list v1_due) ret)) fun t2 =>
 sel t2 (kO (isiD .tuple v1_due) fun t3 =>
 kO (isiD .tuple v0_actual) fun t4 =>
 kO (cmpD .ne (D.bl t3) (D.bl t4)) fun t5 =>
 bnd (sel t5 (ret true) (kO (isiD .list v1_due) fun t6 =>
 kO (isiD .list v0_actual) fun t7 =>
 kO (cmpD .ne (D.bl t6) (D.bl t7)) ret)) fun t8 =>
 sel t8 (ret (D.bl false)) (kO (bltD .len [v0_actual]) fun t9 =>
 kO (bltD .len [v1_due]) fun t10 =>
 kO (cmpD .ne t9 t10) fun t11 =>
 sel t11 (ret (D.bl false)) (kO (bltD .len [v1_due]) fun t12 =>
 kO (rngD [t12]) fun xs13 =>
 forK (fun d env nx bk => kP (.nm 2) d env fun env => kB (pr.at (j + 1)) b__law_same_1 env nx nx bk ret) xs13 [.val v0_actual, .val v1_due, .no, .no] (fun env => kB (pr.at (j + 1)) b__law_same_2 env (fun env => kB (pr.at (j + 1)) b__law_same_0 env (fun _ => ret D.non) (fun _ => bad) (fun _ => bad) ret) (fun _ => bad) (fun _ => bad) ret)))) (kB (pr.at (j + 1)) b__law_same_0 [.val v0_actual, .val v1_due, .no, .no] (fun _ => ret D.non) (fun _ => bad) (fun _ => bad) ret)) : M D) := by kernel_rfl
theorem u__law_same (j : Nat) (h : 1 ≤ j + 1) (v0_actual : D) (v1_due : D) : x__law_same (j + 1) v0_actual v1_due =
 (sel (isNone v1_due) (ret (D.bl (isNone v0_actual))) (kO (isiD .tuple v1_due) fun t1 =>
 bnd (sel t1 (ret true) (kO (isiD .list v1_due) ret)) fun t2 =>
 sel t2 (kO (isiD .tuple v1_due) fun t3 =>
 kO (isiD .tuple v0_actual) fun t4 =>
 kO (cmpD .ne (D.bl t3) (D.bl t4)) fun t5 =>
 bnd (sel t5 (ret true) (kO (isiD .list v1_due) fun t6 =>
 kO (isiD .list v0_actual) fun t7 =>
 kO (cmpD .ne (D.bl t6) (D.bl t7)) ret)) fun t8 =>
 sel t8 (ret (D.bl false)) (kO (bltD .len [v0_actual]) fun t9 =>
 kO (bltD .len [v1_due]) fun t10 =>
 kO (cmpD .ne t9 t10) fun t11 =>
 sel t11 (ret (D.bl false)) (kO (bltD .len [v1_due]) fun t12 =>
 kO (rngD [t12]) fun xs13 =>
 forC (σ := Unit) (fun d s15 nx bk => x__law_same_1 (j + 1) v0_actual v1_due d nx bk) xs13 () fun s14 =>
 x__law_same_2 (j + 1)))) (x__law_same_0 (j + 1) v0_actual v1_due))) := by
  refine (callD_run (Nat.le_of_ble_eq_true rfl)).trans ?_
  refine Eq.trans (b := (sel (isNone v1_due) (ret (D.bl (isNone v0_actual))) (kO (isiD .tuple v1_due) fun t1 =>
 bnd (sel t1 (ret true) (kO (isiD .list v1_due) ret)) fun t2 =>
 sel t2 (kO (isiD .tuple v1_due) fun t3 =>
 kO (isiD .tuple v0_actual) fun t4 =>
 kO (cmpD .ne (D.bl t3) (D.bl t4)) fun t5 =>
 bnd (sel t5 (ret true) (kO (isiD .list v1_due) fun t6 =>
 kO (isiD .list v0_actual) fun t7 =>
 kO (cmpD .ne (D.bl t6) (D.bl t7)) ret)) fun t8 =>
 sel t8 (ret (D.bl false)) (kO (bltD .len [v0_actual]) fun t9 =>
 kO (bltD .len [v1_due]) fun t10 =>
 kO (cmpD .ne t9 t10) fun t11 =>
 sel t11 (ret (D.bl false)) (kO (bltD .len [v1_due]) fun t12 =>
 kO (rngD [t12]) fun xs13 =>
 forK (fun d env nx bk => kP (.nm 2) d env fun env => kB (pr.at (j + 1)) b__law_same_1 env nx nx bk ret) xs13 [.val v0_actual, .val v1_due, .no, .no] (fun env => kB (pr.at (j + 1)) b__law_same_2 env (fun env => kB (pr.at (j + 1)) b__law_same_0 env (fun _ => ret D.non) (fun _ => bad) (fun _ => bad) ret) (fun _ => bad) (fun _ => bad) ret)))) (kB (pr.at (j + 1)) b__law_same_0 [.val v0_actual, .val v1_due, .no, .no] (fun _ => ret D.non) (fun _ => bad) (fun _ => bad) ret)) : M D)) (g__law_same j b__law_same_1 b__law_same_2 b__law_same_0 v0_actual v1_due) ?_
  simp only [ret_bnd, l__law_same_1 j h, s__law_same_0 j h, s__law_same_2 j h]
  try rfl
def x__law_rule  : M D :=
 bnd (x__law_take (D.int 9)) fun t1 =>
 bnd (x__law_take (D.int 9)) fun t2 =>
 bnd (x__law_take (D.int 9)) fun t3 =>
 bnd (x__law_take (D.int 3)) fun t4 =>
 bnd (x__law_pick (D.lst [(D.tup [(D.int 0), (D.int 0), (D.int 0)]), (D.tup [(D.int 1), (D.int 2), (D.int 3)]), (D.tup [t1, t2, t3]), (D.tup [(D.int 0), t4, (D.int 0)])])) fun quarters5 =>
 bnd (x__law_pick (D.lst [(D.int 12), (D.int 24)])) fun t6 =>
 bnd (x__law_take (D.int 2)) fun t7 =>
 kO (cmpD .eq t7 (D.int 0)) fun t8 =>
 ret (D.tup [t6, quarters5, (D.bl t8)])
theorem s__law_rule (j : Nat) (h : 3 ≤ j + 1) : (kB (pr.at (j + 1)) b__law_rule [.val D.drw, .no] (fun _ => ret D.non) (fun _ => bad) (fun _ => bad) ret) = x__law_rule := by
  unfold x__law_rule
  refine Eq.trans (b := (bnd (callF (pr.at (j + 1)) "_law_take" [D.drw, (D.int 9)]) fun t1 =>
 bnd (callF (pr.at (j + 1)) "_law_take" [D.drw, (D.int 9)]) fun t2 =>
 bnd (callF (pr.at (j + 1)) "_law_take" [D.drw, (D.int 9)]) fun t3 =>
 bnd (callF (pr.at (j + 1)) "_law_take" [D.drw, (D.int 3)]) fun t4 =>
 bnd (callF (pr.at (j + 1)) "_law_pick" [D.drw, (D.lst [(D.tup [(D.int 0), (D.int 0), (D.int 0)]), (D.tup [(D.int 1), (D.int 2), (D.int 3)]), (D.tup [t1, t2, t3]), (D.tup [(D.int 0), t4, (D.int 0)])])]) fun quarters5 =>
 bnd (callF (pr.at (j + 1)) "_law_pick" [D.drw, (D.lst [(D.int 12), (D.int 24)])]) fun t6 =>
 bnd (callF (pr.at (j + 1)) "_law_take" [D.drw, (D.int 2)]) fun t7 =>
 kO (cmpD .eq t7 (D.int 0)) fun t8 =>
 ret (D.tup [t6, quarters5, (D.bl t8)]) : M D)) ((by kernel_rfl)) ?_
  simp only [ret_bnd, c__law_pick (j + 1) (by omega), c__law_take (j + 1) (by omega)]
theorem c__law_rule (i : Nat) (h : 4 ≤ i) : callF (pr.at i) "_law_rule" [D.drw] = x__law_rule := by
  obtain ⟨j, rfl⟩ : ∃ j, i = j + 2 := ⟨i - 2, by omega⟩
  refine Eq.trans (b := (fun dr => callD (pr.at (j + 1)) 2 b__law_rule [D.drw] dr)) (by kernel_rfl) ?_
  exact (callD_run (Nat.le_of_ble_eq_true rfl)).trans (s__law_rule j (by omega))
def x__law_hour (v0_hours : D) (v1_h : D) : M D :=
 kO (cmpD .eq v0_hours (D.int 12)) fun t1 =>
 sel t1 (kO (bltD .int [v1_h]) fun t2 =>
 kO (binD .mod t2 (D.int 12)) fun t3 =>
 kO (ixD (D.lst [(D.int 12), (D.int 1), (D.int 2), (D.int 3), (D.int 4), (D.int 5), (D.int 6), (D.int 7), (D.int 8), (D.int 9), (D.int 10), (D.int 11)]) t3) ret) (kO (cmpD .gt v1_h (D.int 0)) fun t4 =>
 kO (bltD .int [(D.bl t4)]) fun t5 =>
 kO (ixD (D.lst [(D.int 24), v1_h]) t5) ret)
theorem s__law_hour (j : Nat) (h : 1 ≤ j + 1) (v0_hours : D) (v1_h : D) : (kB (pr.at (j + 1)) b__law_hour [.val v0_hours, .val v1_h] (fun _ => ret D.non) (fun _ => bad) (fun _ => bad) ret) = x__law_hour v0_hours v1_h := by
  unfold x__law_hour
  refine Eq.trans (b := (kO (cmpD .eq v0_hours (D.int 12)) fun t1 =>
 sel t1 (kO (bltD .int [v1_h]) fun t2 =>
 kO (binD .mod t2 (D.int 12)) fun t3 =>
 kO (ixD (D.lst [(D.int 12), (D.int 1), (D.int 2), (D.int 3), (D.int 4), (D.int 5), (D.int 6), (D.int 7), (D.int 8), (D.int 9), (D.int 10), (D.int 11)]) t3) ret) (kO (cmpD .gt v1_h (D.int 0)) fun t4 =>
 kO (bltD .int [(D.bl t4)]) fun t5 =>
 kO (ixD (D.lst [(D.int 24), v1_h]) t5) ret) : M D)) ((by kernel_rfl)) ?_
  simp only [ret_bnd]
theorem c__law_hour (i : Nat) (h : 2 ≤ i) (v0_hours : D) (v1_h : D) : callF (pr.at i) "_law_hour" [v0_hours, v1_h] = x__law_hour v0_hours v1_h := by
  obtain ⟨j, rfl⟩ : ∃ j, i = j + 2 := ⟨i - 2, by omega⟩
  refine Eq.trans (b := (fun dr => callD (pr.at (j + 1)) 2 b__law_hour [v0_hours, v1_h] dr)) (by kernel_rfl) ?_
  exact (callD_run (Nat.le_of_ble_eq_true rfl)).trans (s__law_hour j (by omega) v0_hours v1_h)
def x__law_day_0 (v3_hours : D) (v4_quarters : D) (v5_halves : D) (d : D) (v1_found : D) (nx bk : D → M D) : M D :=
 bnd (x__law_hour v3_hours d) fun t1 =>
 kO (ixD v4_quarters (D.int 0)) fun t2 =>
 kO (ixD v4_quarters (D.int 1)) fun t3 =>
 kO (bltD .int [v5_halves]) fun t4 =>
 kO (binD .add t3 t4) fun t5 =>
 kO (ixD v4_quarters (D.int 2)) fun t6 =>
 kO (binD .add v1_found (D.lst [t1, t2, t5, t6])) fun found7 =>
 nx found7
theorem s__law_day_0 (j : Nat) (h : 2 ≤ j + 1) (v1_found : D) (v3_hours : D) (v4_quarters : D) (v5_halves : D) (d : D) (nx bk : Cr.Env → M D) : (kP (.nm 2) d [.no, .val v1_found, .no, .val v3_hours, .val v4_quarters, .val v5_halves] fun env => kB (pr.at (j + 1)) b__law_day_0 env nx nx bk ret) = x__law_day_0 v3_hours v4_quarters v5_halves d v1_found (fun s => nx ((fun s => [.no, .val s, .no, .val v3_hours, .val v4_quarters, .val v5_halves]) s)) (fun s => bk ((fun s => [.no, .val s, .no, .val v3_hours, .val v4_quarters, .val v5_halves]) s)) := by
  unfold x__law_day_0
  refine Eq.trans (b := (bnd (callF (pr.at (j + 1)) "_law_hour" [v3_hours, d]) fun t1 =>
 kO (ixD v4_quarters (D.int 0)) fun t2 =>
 kO (ixD v4_quarters (D.int 1)) fun t3 =>
 kO (bltD .int [v5_halves]) fun t4 =>
 kO (binD .add t3 t4) fun t5 =>
 kO (ixD v4_quarters (D.int 2)) fun t6 =>
 kO (binD .add v1_found (D.lst [t1, t2, t5, t6])) fun found7 =>
 nx [.no, .val found7, .no, .val v3_hours, .val v4_quarters, .val v5_halves] : M D)) ((by kernel_rfl)) ?_
  simp only [c__law_hour (j + 1) (by omega)]
theorem l__law_day_0 (j : Nat) (h : 2 ≤ j + 1) (v1_found : D) (v3_hours : D) (v4_quarters : D) (v5_halves : D) (xs : List D) (K : Cr.Env → M D) : forK (fun d env nx bk => kP (.nm 2) d env fun env => kB (pr.at (j + 1)) b__law_day_0 env nx nx bk ret) xs [.no, .val v1_found, .no, .val v3_hours, .val v4_quarters, .val v5_halves] K = forC (σ := D) (fun d s nx bk => x__law_day_0 v3_hours v4_quarters v5_halves d s nx bk) xs v1_found (fun s => K [.no, .val s, .no, .val v3_hours, .val v4_quarters, .val v5_halves]) :=
  forC_eq (σ := D) (fun s => [.no, .val s, .no, .val v3_hours, .val v4_quarters, .val v5_halves]) (fun d s nx bk => s__law_day_0 j h s v3_hours v4_quarters v5_halves d nx bk) xs v1_found K
def x__law_day_1 (v1_found : D) : M D :=
 ret v1_found
theorem s__law_day_1 (j : Nat) (h : 2 ≤ j + 1) (v1_found : D) (v3_hours : D) (v4_quarters : D) (v5_halves : D) : (kB (pr.at (j + 1)) b__law_day_1 [.no, .val v1_found, .no, .val v3_hours, .val v4_quarters, .val v5_halves] (fun _ => ret D.non) (fun _ => bad) (fun _ => bad) ret) = x__law_day_1 v1_found := by
  unfold x__law_day_1
  refine Eq.trans (b := (ret v1_found : M D)) ((by kernel_rfl)) ?_
  rfl
def x__law_day (v0_rule : D) : M D :=
 kO (unD v0_rule) fun l1 =>
 unC l1 fun hours2 l3 =>
 unC l3 fun quarters4 l5 =>
 unC l5 fun halves6 l7 =>
 unN l7 (kO (rngD [(D.int 24)]) fun xs8 =>
 forC (σ := D) (fun d s10 nx bk => x__law_day_0 hours2 quarters4 halves6 d s10 nx bk) xs8 (D.lst []) fun s9 =>
 x__law_day_1 s9)
theorem g__law_day (j : Nat) (b__law_day_0 : CS) (b__law_day_1 : CS) (v0_rule : D) : (kB (pr.at (j + 1)) (.asg (.tp (.cons (.nm 3) (.cons (.nm 4) (.cons (.nm 5) .nil)))) (.var 0) (.asg (.nm 1) (.lst .nil) (.wip 0 (.for_ (.nm 2) (.rng (.cons (.int 24) .nil)) b__law_day_0 b__law_day_1)))) [.val v0_rule, .no, .no, .no, .no, .no] (fun _ => ret D.non) (fun _ => bad) (fun _ => bad) ret) = (kO (unD v0_rule) fun l1 =>
 unC l1 fun hours2 l3 =>
 unC l3 fun quarters4 l5 =>
 unC l5 fun halves6 l7 =>
 unN l7 (kO (rngD [(D.int 24)]) fun xs8 =>
 forK (fun d env nx bk => kP (.nm 2) d env fun env => kB (pr.at (j + 1)) b__law_day_0 env nx nx bk ret) xs8 [.no, .val (D.lst []), .no, .val hours2, .val quarters4, .val halves6] (fun env => kB (pr.at (j + 1)) b__law_day_1 env (fun _ => ret D.non) (fun _ => bad) (fun _ => bad) ret)) : M D) := by kernel_rfl
theorem s__law_day (j : Nat) (h : 2 ≤ j + 1) (v0_rule : D) : (kB (pr.at (j + 1)) b__law_day [.val v0_rule, .no, .no, .no, .no, .no] (fun _ => ret D.non) (fun _ => bad) (fun _ => bad) ret) = x__law_day v0_rule := by
  unfold x__law_day
  refine Eq.trans (b := (kO (unD v0_rule) fun l1 =>
 unC l1 fun hours2 l3 =>
 unC l3 fun quarters4 l5 =>
 unC l5 fun halves6 l7 =>
 unN l7 (kO (rngD [(D.int 24)]) fun xs8 =>
 forK (fun d env nx bk => kP (.nm 2) d env fun env => kB (pr.at (j + 1)) b__law_day_0 env nx nx bk ret) xs8 [.no, .val (D.lst []), .no, .val hours2, .val quarters4, .val halves6] (fun env => kB (pr.at (j + 1)) b__law_day_1 env (fun _ => ret D.non) (fun _ => bad) (fun _ => bad) ret)) : M D)) (g__law_day j b__law_day_0 b__law_day_1 v0_rule) ?_
  simp only [ret_bnd, l__law_day_0 j h, s__law_day_1 j h]
theorem c__law_day (i : Nat) (h : 3 ≤ i) (v0_rule : D) : callF (pr.at i) "_law_day" [v0_rule] = x__law_day v0_rule := by
  obtain ⟨j, rfl⟩ : ∃ j, i = j + 2 := ⟨i - 2, by omega⟩
  refine Eq.trans (b := (fun dr => callD (pr.at (j + 1)) 6 b__law_day [v0_rule] dr)) (by kernel_rfl) ?_
  exact (callD_run (Nat.le_of_ble_eq_true rfl)).trans (s__law_day j (by omega) v0_rule)
def x__law_ahead (v0_rule : D) (v1_second : D) : M D :=
 bnd (x__law_day v0_rule) fun day1 =>
 kO (binD .add v1_second (D.int 899)) fun t2 =>
 kO (binD .fdiv t2 (D.int 900)) fun quarters3 =>
 kO (binD .fdiv quarters3 (D.int 96)) fun t4 =>
 kO (bltD .sum [day1]) fun t5 =>
 kO (binD .mul t4 t5) fun t6 =>
 kO (bltD .int [quarters3]) fun t7 =>
 kO (binD .mod t7 (D.int 96)) fun t8 =>
 kO (asI t8) fun t9 =>
 kO (slD day1 none (some t9)) fun t10 =>
 kO (bltD .sum [t10]) fun t11 =>
 kO (binD .add t6 t11) ret
theorem s__law_ahead (j : Nat) (h : 3 ≤ j + 1) (v0_rule : D) (v1_second : D) : (kB (pr.at (j + 1)) b__law_ahead [.val v0_rule, .val v1_second, .no, .no] (fun _ => ret D.non) (fun _ => bad) (fun _ => bad) ret) = x__law_ahead v0_rule v1_second := by
  unfold x__law_ahead
  refine Eq.trans (b := (bnd (callF (pr.at (j + 1)) "_law_day" [v0_rule]) fun day1 =>
 kO (binD .add v1_second (D.int 899)) fun t2 =>
 kO (binD .fdiv t2 (D.int 900)) fun quarters3 =>
 kO (binD .fdiv quarters3 (D.int 96)) fun t4 =>
 kO (bltD .sum [day1]) fun t5 =>
 kO (binD .mul t4 t5) fun t6 =>
 kO (bltD .int [quarters3]) fun t7 =>
 kO (binD .mod t7 (D.int 96)) fun t8 =>
 kO (asI t8) fun t9 =>
 kO (slD day1 none (some t9)) fun t10 =>
 kO (bltD .sum [t10]) fun t11 =>
 kO (binD .add t6 t11) ret : M D)) ((by kernel_rfl)) ?_
  simp only [ret_bnd, c__law_day (j + 1) (by omega)]
theorem c__law_ahead (i : Nat) (h : 4 ≤ i) (v0_rule : D) (v1_second : D) : callF (pr.at i) "_law_ahead" [v0_rule, v1_second] = x__law_ahead v0_rule v1_second := by
  obtain ⟨j, rfl⟩ : ∃ j, i = j + 2 := ⟨i - 2, by omega⟩
  refine Eq.trans (b := (fun dr => callD (pr.at (j + 1)) 4 b__law_ahead [v0_rule, v1_second] dr)) (by kernel_rfl) ?_
  exact (callD_run (Nat.le_of_ble_eq_true rfl)).trans (s__law_ahead j (by omega) v0_rule v1_second)
def x__law_told (i : Nat) (v0_which : D) (v1_one : D) (v2_two : D) (v3_three : D) : M D :=
 hd (tryM (pr.at i) "TuneError" "_law_flags" (kO (cmpD .lt v0_which (D.int 3)) fun t1 =>
 sel t1 (kO (ixD (D.lst [(D.fn "is_striking"), (D.fn "strokes_a_day"), (D.fn "longest_silence")]) v0_which) fun t2 =>
 kO (fnOf (pr.at i) t2) fun q3 =>
 bnd (callV q3 [v1_one]) fun t4 =>
 ret (.rt t4)) (kO (cmpD .lt v0_which (D.int 9)) fun t5 =>
 sel t5 (kO (binD .sub v0_which (D.int 3)) fun t6 =>
 kO (ixD (D.lst [(D.fn "strokes_at"), (D.fn "next_striking"), (D.fn "is_striking_now"), (D.fn "hours_heard"), (D.fn "off_by"), (D.fn "strikes_to_set")]) t6) fun t7 =>
 kO (fnOf (pr.at i) t7) fun q8 =>
 bnd (callV q8 [v1_one, v2_two]) fun t9 =>
 ret (.rt t9)) (bnd (x_strokes_between v1_one v2_two v3_three) fun t10 =>
 ret (.rt t10))))) (fun _ => ret D.non) (fun _ => bad) (fun _ => bad) ret
theorem s__law_told (j : Nat) (h : 6 ≤ j + 1) (v0_which : D) (v1_one : D) (v2_two : D) (v3_three : D) : (kB (pr.at (j + 1)) b__law_told [.val v0_which, .val v1_one, .val v2_two, .val v3_three, .no] (fun _ => ret D.non) (fun _ => bad) (fun _ => bad) ret) = x__law_told (j + 1) v0_which v1_one v2_two v3_three := by
  unfold x__law_told
  refine Eq.trans (b := (hd (tryM (pr.at (j + 1)) "TuneError" "_law_flags" (kO (cmpD .lt v0_which (D.int 3)) fun t1 =>
 sel t1 (kO (ixD (D.lst [(D.fn "is_striking"), (D.fn "strokes_a_day"), (D.fn "longest_silence")]) v0_which) fun t2 =>
 kO (fnOf (pr.at (j + 1)) t2) fun q3 =>
 bnd (callV q3 [v1_one]) fun t4 =>
 ret (.rt t4)) (kO (cmpD .lt v0_which (D.int 9)) fun t5 =>
 sel t5 (kO (binD .sub v0_which (D.int 3)) fun t6 =>
 kO (ixD (D.lst [(D.fn "strokes_at"), (D.fn "next_striking"), (D.fn "is_striking_now"), (D.fn "hours_heard"), (D.fn "off_by"), (D.fn "strikes_to_set")]) t6) fun t7 =>
 kO (fnOf (pr.at (j + 1)) t7) fun q8 =>
 bnd (callV q8 [v1_one, v2_two]) fun t9 =>
 ret (.rt t9)) (bnd (callF (pr.at (j + 1)) "strokes_between" [v1_one, v2_two, v3_three]) fun t10 =>
 ret (.rt t10))))) (fun _ => ret D.non) (fun _ => bad) (fun _ => bad) ret : M D)) ((by kernel_rfl)) ?_
  simp only [ret_bnd, c_strokes_between (j + 1) (by omega)]
theorem c__law_told (i : Nat) (h : 7 ≤ i) (v0_which : D) (v1_one : D) (v2_two : D) (v3_three : D) : callF (pr.at i) "_law_told" [v0_which, v1_one, v2_two, v3_three] = x__law_told (i - 1) v0_which v1_one v2_two v3_three := by
  obtain ⟨j, rfl⟩ : ∃ j, i = j + 2 := ⟨i - 2, by omega⟩
  refine Eq.trans (b := (fun dr => callD (pr.at (j + 1)) 5 b__law_told [v0_which, v1_one, v2_two, v3_three] dr)) (by kernel_rfl) ?_
  exact (callD_run (Nat.le_of_ble_eq_true rfl)).trans (s__law_told j (by omega) v0_which v1_one v2_two v3_three)
def x__law_is_second_right_0 (i : Nat) (v0_rule : D) (v1_second : D) (v2_day : D) (v8_due : D) (v9_now : D) : M D :=
 kO (bltD .int [v1_second]) fun t1 =>
 kO (binD .mod t1 (D.int 900)) fun behind2 =>
 kO (bltD .int [behind2]) fun t3 =>
 kO (binD .mod t3 (D.int 2)) fun t4 =>
 kO (cmpD .eq t4 (D.int 0)) fun t5 =>
 kO (blD (D.bl t5)) fun t6 =>
 bnd (sel t6 (kO (ixD v2_day v9_now) fun t7 =>
 kO (binD .mul (D.int 2) t7) fun t8 =>
 kO (cmpD .lt behind2 t8) fun t9 =>
 ret (D.bl t9)) (ret (D.bl false))) fun falls10 =>
 kO (binD .add v1_second (D.int 899)) fun t11 =>
 kO (binD .fdiv t11 (D.int 900)) fun quarter12 =>
 kO (rngD [(D.int 97)]) fun xs13 =>
 bnd (lcM (fun d14 =>
 kO (binD .add quarter12 d14) fun t15 =>
 kO (bltD .int [t15]) fun t16 =>
 kO (binD .mod t16 (D.int 96)) fun t17 =>
 kO (ixD v2_day t17) fun t18 =>
 kO (cmpD .gt t18 (D.int 0)) fun t19 =>
 sel t19 (ret (some d14)) (ret none)) xs13) fun t20 =>
 kO (ixD t20 (D.int 0)) fun step21 =>
 bnd (x__law_told (i - 1) (D.int 3) v0_rule v1_second (D.int 0)) fun t22 =>
 bnd (x__law_told (i - 1) (D.int 4) v0_rule v1_second (D.int 0)) fun t23 =>
 bnd (x__law_told (i - 1) (D.int 5) v0_rule v1_second (D.int 0)) fun t24 =>
 kO (binD .add quarter12 step21) fun t25 =>
 kO (binD .mul t25 (D.int 900)) fun t26 =>
 x__law_same (i - 1) (D.lst [t22, t23, t24]) (D.lst [v8_due, t26, falls10])
theorem s__law_is_second_right_0 (j : Nat) (h : 7 ≤ j + 1) (v0_rule : D) (v1_second : D) (v2_day : D) (v8_due : D) (v9_now : D) : (kB (pr.at (j + 1)) b__law_is_second_right_0 [.val v0_rule, .val v1_second, .val v2_day, .no, .no, .no, .no, .no, .val v8_due, .val v9_now, .no] (fun _ => ret D.non) (fun _ => bad) (fun _ => bad) ret) = x__law_is_second_right_0 (j + 1) v0_rule v1_second v2_day v8_due v9_now := by
  unfold x__law_is_second_right_0
  refine Eq.trans (b := (kO (bltD .int [v1_second]) fun t1 =>
 kO (binD .mod t1 (D.int 900)) fun behind2 =>
 kO (bltD .int [behind2]) fun t3 =>
 kO (binD .mod t3 (D.int 2)) fun t4 =>
 kO (cmpD .eq t4 (D.int 0)) fun t5 =>
 kO (blD (D.bl t5)) fun t6 =>
 bnd (sel t6 (kO (ixD v2_day v9_now) fun t7 =>
 kO (binD .mul (D.int 2) t7) fun t8 =>
 kO (cmpD .lt behind2 t8) fun t9 =>
 ret (D.bl t9)) (ret (D.bl false))) fun falls10 =>
 kO (binD .add v1_second (D.int 899)) fun t11 =>
 kO (binD .fdiv t11 (D.int 900)) fun quarter12 =>
 kO (rngD [(D.int 97)]) fun xs13 =>
 bnd (lcM (fun d14 =>
 kO (binD .add quarter12 d14) fun t15 =>
 kO (bltD .int [t15]) fun t16 =>
 kO (binD .mod t16 (D.int 96)) fun t17 =>
 kO (ixD v2_day t17) fun t18 =>
 kO (cmpD .gt t18 (D.int 0)) fun t19 =>
 sel t19 (ret (some d14)) (ret none)) xs13) fun t20 =>
 kO (ixD t20 (D.int 0)) fun step21 =>
 bnd (callF (pr.at (j + 1)) "_law_told" [(D.int 3), v0_rule, v1_second, (D.int 0)]) fun t22 =>
 bnd (callF (pr.at (j + 1)) "_law_told" [(D.int 4), v0_rule, v1_second, (D.int 0)]) fun t23 =>
 bnd (callF (pr.at (j + 1)) "_law_told" [(D.int 5), v0_rule, v1_second, (D.int 0)]) fun t24 =>
 kO (binD .add quarter12 step21) fun t25 =>
 kO (binD .mul t25 (D.int 900)) fun t26 =>
 bnd (callF (pr.at (j + 1)) "_law_same" [(D.lst [t22, t23, t24]), (D.lst [v8_due, t26, falls10])]) ret : M D)) ((by kernel_rfl)) ?_
  simp only [ret_bnd, c__law_same (j + 1) (by omega), c__law_told (j + 1) (by omega)]
def x__law_is_second_right (i : Nat) (v0_rule : D) (v1_second : D) : M D :=
 bnd (x__law_day v0_rule) fun day1 =>
 kO (binD .fdiv v1_second (D.int 900)) fun t2 =>
 kO (bltD .int [t2]) fun t3 =>
 kO (binD .mod t3 (D.int 96)) fun now4 =>
 kO (bltD .int [v1_second]) fun t5 =>
 kO (binD .mod t5 (D.int 900)) fun t6 =>
 kO (cmpD .eq t6 (D.int 0)) fun t7 =>
 sel t7 (kO (ixD day1 now4) fun due8 =>
 x__law_is_second_right_0 i v0_rule v1_second day1 due8 now4) (x__law_is_second_right_0 i v0_rule v1_second day1 (D.int 0) now4)
theorem g__law_is_second_right (j : Nat) (b__law_is_second_right_0 : CS) (v0_rule : D) (v1_second : D) : (kB (pr.at (j + 1)) (.asg (.nm 2) (.call "_law_day" (.cons (.var 0) .nil)) (.par 8 9 (.int 0) (.bin .mod (.blt .int (.cons (.bin .fdiv (.var 1) (.int 900)) .nil)) (.int 96)) (.ifs (.cmp .eq (.bin .mod (.blt .int (.cons (.var 1) .nil)) (.int 900)) (.int 0)) (.asg (.nm 8) (.ix (.var 2) (.var 9)) .done) .done b__law_is_second_right_0))) [.val v0_rule, .val v1_second, .no, .no, .no, .no, .no, .no, .no, .no, .no] (fun _ => ret D.non) (fun _ => bad) (fun _ => bad) ret) = (bnd (callF (pr.at (j + 1)) "_law_day" [v0_rule]) fun day1 =>
 kO (binD .fdiv v1_second (D.int 900)) fun t2 =>
 kO (bltD .int [t2]) fun t3 =>
 kO (binD .mod t3 (D.int 96)) fun now4 =>
 kO (bltD .int [v1_second]) fun t5 =>
 kO (binD .mod t5 (D.int 900)) fun t6 =>
 kO (cmpD .eq t6 (D.int 0)) fun t7 =>
 sel t7 (kO (ixD day1 now4) fun due8 =>
 kB (pr.at (j + 1)) b__law_is_second_right_0 [.val v0_rule, .val v1_second, .val day1, .no, .no, .no, .no, .no, .val due8, .val now4, .no] (fun _ => ret D.non) (fun _ => bad) (fun _ => bad) ret) (kB (pr.at (j + 1)) b__law_is_second_right_0 [.val v0_rule, .val v1_second, .val day1, .no, .no, .no, .no, .no, .val (D.int 0), .val now4, .no] (fun _ => ret D.non) (fun _ => bad) (fun _ => bad) ret) : M D) := by kernel_rfl
theorem s__law_is_second_right (j : Nat) (h : 7 ≤ j + 1) (v0_rule : D) (v1_second : D) : (kB (pr.at (j + 1)) b__law_is_second_right [.val v0_rule, .val v1_second, .no, .no, .no, .no, .no, .no, .no, .no, .no] (fun _ => ret D.non) (fun _ => bad) (fun _ => bad) ret) = x__law_is_second_right (j + 1) v0_rule v1_second := by
  unfold x__law_is_second_right
  refine Eq.trans (b := (bnd (callF (pr.at (j + 1)) "_law_day" [v0_rule]) fun day1 =>
 kO (binD .fdiv v1_second (D.int 900)) fun t2 =>
 kO (bltD .int [t2]) fun t3 =>
 kO (binD .mod t3 (D.int 96)) fun now4 =>
 kO (bltD .int [v1_second]) fun t5 =>
 kO (binD .mod t5 (D.int 900)) fun t6 =>
 kO (cmpD .eq t6 (D.int 0)) fun t7 =>
 sel t7 (kO (ixD day1 now4) fun due8 =>
 kB (pr.at (j + 1)) b__law_is_second_right_0 [.val v0_rule, .val v1_second, .val day1, .no, .no, .no, .no, .no, .val due8, .val now4, .no] (fun _ => ret D.non) (fun _ => bad) (fun _ => bad) ret) (kB (pr.at (j + 1)) b__law_is_second_right_0 [.val v0_rule, .val v1_second, .val day1, .no, .no, .no, .no, .no, .val (D.int 0), .val now4, .no] (fun _ => ret D.non) (fun _ => bad) (fun _ => bad) ret) : M D)) (g__law_is_second_right j b__law_is_second_right_0 v0_rule v1_second) ?_
  simp only [ret_bnd, c__law_day (j + 1) (by omega), s__law_is_second_right_0 j h]
theorem c__law_is_second_right (i : Nat) (h : 8 ≤ i) (v0_rule : D) (v1_second : D) : callF (pr.at i) "_law_is_second_right" [v0_rule, v1_second] = x__law_is_second_right (i - 1) v0_rule v1_second := by
  obtain ⟨j, rfl⟩ : ∃ j, i = j + 2 := ⟨i - 2, by omega⟩
  refine Eq.trans (b := (fun dr => callD (pr.at (j + 1)) 11 b__law_is_second_right [v0_rule, v1_second] dr)) (by kernel_rfl) ?_
  exact (callD_run (Nat.le_of_ble_eq_true rfl)).trans (s__law_is_second_right j (by omega) v0_rule v1_second)
def x_law_1 (i : Nat) (v4_rule : D) (d : D) (nx bk : Unit → M D) : M D :=
 bnd (x__law_take (D.int 97)) fun t1 =>
 bnd (x__law_take (D.int 997)) fun t2 =>
 kO (binD .pow (D.int 10) (D.int 18)) fun t3 =>
 bnd (x__law_take (D.int 97)) fun t4 =>
 kO (binD .add t3 t4) fun t5 =>
 bnd (x__law_pick (D.lst [(D.int 0), (D.int 1), (D.int 95), (D.int 96), t1, t2, t5])) fun quarter6 =>
 kO (binD .mul (D.int 900) quarter6) fun t7 =>
 bnd (x__law_take (D.int 900)) fun t8 =>
 bnd (x__law_pick (D.lst [(D.int 0), (D.int 0), (D.int 1), (D.int 2), (D.int 14), (D.int 16), (D.int 46), (D.int 48), (D.int 899), t8])) fun t9 =>
 kO (binD .add t7 t9) fun second10 =>
 bnd (x__law_is_second_right (i - 1) v4_rule second10) fun t11 =>
 kO (D.tru t11) fun t12 =>
 sel (!t12) (ret (D.bl false)) (nx ())
theorem s_law_1 (j : Nat) (h : 8 ≤ j + 1) (v2_refused : D) (v4_rule : D) (d : D) (nx bk : Cr.Env → M D) : (kP (.nm 9) d [.no, .val D.drw, .val v2_refused, .no, .val v4_rule, .no, .no, .no, .no, .no, .no, .no, .no, .no, .no, .no, .no, .no, .no, .no, .no, .no, .no, .no, .no, .no] fun env => kB (pr.at (j + 1)) b_law_1 env nx nx bk ret) = x_law_1 (j + 1) v4_rule d (fun s => nx ((fun s => [.no, .val D.drw, .val v2_refused, .no, .val v4_rule, .no, .no, .no, .no, .no, .no, .no, .no, .no, .no, .no, .no, .no, .no, .no, .no, .no, .no, .no, .no, .no]) s)) (fun s => bk ((fun s => [.no, .val D.drw, .val v2_refused, .no, .val v4_rule, .no, .no, .no, .no, .no, .no, .no, .no, .no, .no, .no, .no, .no, .no, .no, .no, .no, .no, .no, .no, .no]) s)) := by
  unfold x_law_1
  refine Eq.trans (b := (bnd (callF (pr.at (j + 1)) "_law_take" [D.drw, (D.int 97)]) fun t1 =>
 bnd (callF (pr.at (j + 1)) "_law_take" [D.drw, (D.int 997)]) fun t2 =>
 kO (binD .pow (D.int 10) (D.int 18)) fun t3 =>
 bnd (callF (pr.at (j + 1)) "_law_take" [D.drw, (D.int 97)]) fun t4 =>
 kO (binD .add t3 t4) fun t5 =>
 bnd (callF (pr.at (j + 1)) "_law_pick" [D.drw, (D.lst [(D.int 0), (D.int 1), (D.int 95), (D.int 96), t1, t2, t5])]) fun quarter6 =>
 kO (binD .mul (D.int 900) quarter6) fun t7 =>
 bnd (callF (pr.at (j + 1)) "_law_take" [D.drw, (D.int 900)]) fun t8 =>
 bnd (callF (pr.at (j + 1)) "_law_pick" [D.drw, (D.lst [(D.int 0), (D.int 0), (D.int 1), (D.int 2), (D.int 14), (D.int 16), (D.int 46), (D.int 48), (D.int 899), t8])]) fun t9 =>
 kO (binD .add t7 t9) fun second10 =>
 bnd (callF (pr.at (j + 1)) "_law_is_second_right" [v4_rule, second10]) fun t11 =>
 kO (D.tru t11) fun t12 =>
 sel (!t12) (ret (D.bl false)) (nx [.no, .val D.drw, .val v2_refused, .no, .val v4_rule, .no, .no, .no, .no, .no, .no, .no, .no, .no, .no, .no, .no, .no, .no, .no, .no, .no, .no, .no, .no, .no]) : M D)) ((by kernel_rfl)) ?_
  simp only [c__law_is_second_right (j + 1) (by omega), c__law_pick (j + 1) (by omega), c__law_take (j + 1) (by omega)]
theorem l_law_1 (j : Nat) (h : 8 ≤ j + 1) (v2_refused : D) (v4_rule : D) (xs : List D) (K : Cr.Env → M D) : forK (fun d env nx bk => kP (.nm 9) d env fun env => kB (pr.at (j + 1)) b_law_1 env nx nx bk ret) xs [.no, .val D.drw, .val v2_refused, .no, .val v4_rule, .no, .no, .no, .no, .no, .no, .no, .no, .no, .no, .no, .no, .no, .no, .no, .no, .no, .no, .no, .no, .no] K = forC (σ := Unit) (fun d s nx bk => x_law_1 (j + 1) v4_rule d nx bk) xs () (fun s => K [.no, .val D.drw, .val v2_refused, .no, .val v4_rule, .no, .no, .no, .no, .no, .no, .no, .no, .no, .no, .no, .no, .no, .no, .no, .no, .no, .no, .no, .no, .no]) :=
  forC_eq (σ := Unit) (fun s => [.no, .val D.drw, .val v2_refused, .no, .val v4_rule, .no, .no, .no, .no, .no, .no, .no, .no, .no, .no, .no, .no, .no, .no, .no, .no, .no, .no, .no, .no, .no]) (fun d s nx bk => s_law_1 j h v2_refused v4_rule d nx bk) xs () K
def x_law_3 (i : Nat) (v4_rule : D) (d : D) (nx bk : Unit → M D) : M D :=
 bnd (x__law_take (D.int 65521)) fun t1 =>
 kO (binD .mul t1 (D.int 900)) fun t2 =>
 kO (binD .pow (D.int 10) (D.int 12)) fun t3 =>
 bnd (x__law_take (D.int 65521)) fun t4 =>
 bnd (x__law_pick (D.lst [(D.int 0), (D.int 1), (D.int 899), (D.int 900), (D.int 86400), t2, t3, t4])) fun a5 =>
 kO (binD .pow (D.int 10) (D.int 12)) fun t6 =>
 bnd (x__law_take (D.int 65521)) fun t7 =>
 kO (binD .mul t7 (D.int 53)) fun t8 =>
 kO (binD .pow (D.int 10) (D.int 12)) fun t9 =>
 bnd (x__law_pick (D.lst [(D.int 0), (D.int 1), (D.int 900), (D.int 3601), (D.int 86400), t8, t9])) fun t10 =>
 kO (binD .add a5 t10) fun t11 =>
 kO (bltD .min [t6, t11]) fun b12 =>
 bnd (x__law_told (i - 1) (D.int 9) v4_rule a5 b12) fun t13 =>
 bnd (x__law_ahead v4_rule b12) fun t14 =>
 bnd (x__law_ahead v4_rule a5) fun t15 =>
 kO (binD .sub t14 t15) fun t16 =>
 bnd (x__law_same (i - 1) t13 t16) fun t17 =>
 kO (D.tru t17) fun t18 =>
 sel (!t18) (ret (D.bl false)) (nx ())
theorem s_law_3 (j : Nat) (h : 8 ≤ j + 1) (v2_refused : D) (v4_rule : D) (d : D) (nx bk : Cr.Env → M D) : (kP (.nm 9) d [.no, .val D.drw, .val v2_refused, .no, .val v4_rule, .no, .no, .no, .no, .no, .no, .no, .no, .no, .no, .no, .no, .no, .no, .no, .no, .no, .no, .no, .no, .no] fun env => kB (pr.at (j + 1)) b_law_3 env nx nx bk ret) = x_law_3 (j + 1) v4_rule d (fun s => nx ((fun s => [.no, .val D.drw, .val v2_refused, .no, .val v4_rule, .no, .no, .no, .no, .no, .no, .no, .no, .no, .no, .no, .no, .no, .no, .no, .no, .no, .no, .no, .no, .no]) s)) (fun s => bk ((fun s => [.no, .val D.drw, .val v2_refused, .no, .val v4_rule, .no, .no, .no, .no, .no, .no, .no, .no, .no, .no, .no, .no, .no, .no, .no, .no, .no, .no, .no, .no, .no]) s)) := by
  unfold x_law_3
  refine Eq.trans (b := (bnd (callF (pr.at (j + 1)) "_law_take" [D.drw, (D.int 65521)]) fun t1 =>
 kO (binD .mul t1 (D.int 900)) fun t2 =>
 kO (binD .pow (D.int 10) (D.int 12)) fun t3 =>
 bnd (callF (pr.at (j + 1)) "_law_take" [D.drw, (D.int 65521)]) fun t4 =>
 bnd (callF (pr.at (j + 1)) "_law_pick" [D.drw, (D.lst [(D.int 0), (D.int 1), (D.int 899), (D.int 900), (D.int 86400), t2, t3, t4])]) fun a5 =>
 kO (binD .pow (D.int 10) (D.int 12)) fun t6 =>
 bnd (callF (pr.at (j + 1)) "_law_take" [D.drw, (D.int 65521)]) fun t7 =>
 kO (binD .mul t7 (D.int 53)) fun t8 =>
 kO (binD .pow (D.int 10) (D.int 12)) fun t9 =>
 bnd (callF (pr.at (j + 1)) "_law_pick" [D.drw, (D.lst [(D.int 0), (D.int 1), (D.int 900), (D.int 3601), (D.int 86400), t8, t9])]) fun t10 =>
 kO (binD .add a5 t10) fun t11 =>
 kO (bltD .min [t6, t11]) fun b12 =>
 bnd (callF (pr.at (j + 1)) "_law_told" [(D.int 9), v4_rule, a5, b12]) fun t13 =>
 bnd (callF (pr.at (j + 1)) "_law_ahead" [v4_rule, b12]) fun t14 =>
 bnd (callF (pr.at (j + 1)) "_law_ahead" [v4_rule, a5]) fun t15 =>
 kO (binD .sub t14 t15) fun t16 =>
 bnd (callF (pr.at (j + 1)) "_law_same" [t13, t16]) fun t17 =>
 kO (D.tru t17) fun t18 =>
 sel (!t18) (ret (D.bl false)) (nx [.no, .val D.drw, .val v2_refused, .no, .val v4_rule, .no, .no, .no, .no, .no, .no, .no, .no, .no, .no, .no, .no, .no, .no, .no, .no, .no, .no, .no, .no, .no]) : M D)) ((by kernel_rfl)) ?_
  simp only [c__law_ahead (j + 1) (by omega), c__law_pick (j + 1) (by omega), c__law_same (j + 1) (by omega), c__law_take (j + 1) (by omega), c__law_told (j + 1) (by omega)]
theorem l_law_3 (j : Nat) (h : 8 ≤ j + 1) (v2_refused : D) (v4_rule : D) (xs : List D) (K : Cr.Env → M D) : forK (fun d env nx bk => kP (.nm 9) d env fun env => kB (pr.at (j + 1)) b_law_3 env nx nx bk ret) xs [.no, .val D.drw, .val v2_refused, .no, .val v4_rule, .no, .no, .no, .no, .no, .no, .no, .no, .no, .no, .no, .no, .no, .no, .no, .no, .no, .no, .no, .no, .no] K = forC (σ := Unit) (fun d s nx bk => x_law_3 (j + 1) v4_rule d nx bk) xs () (fun s => K [.no, .val D.drw, .val v2_refused, .no, .val v4_rule, .no, .no, .no, .no, .no, .no, .no, .no, .no, .no, .no, .no, .no, .no, .no, .no, .no, .no, .no, .no, .no]) :=
  forC_eq (σ := Unit) (fun s => [.no, .val D.drw, .val v2_refused, .no, .val v4_rule, .no, .no, .no, .no, .no, .no, .no, .no, .no, .no, .no, .no, .no, .no, .no, .no, .no, .no, .no, .no, .no]) (fun d s nx bk => s_law_3 j h v2_refused v4_rule d nx bk) xs () K
def x_law_5 (i : Nat) (v4_rule : D) (d : D) (nx bk : Unit → M D) : M D :=
 bnd (x__law_told (i - 1) (D.int 6) v4_rule d (D.int 0)) fun t1 =>
 kO (rngD [(D.int 24)]) fun xs2 =>
 bnd (lcM (fun d3 =>
 kO (ixD v4_rule (D.int 0)) fun t4 =>
 bnd (x__law_hour t4 d3) fun t5 =>
 kO (cmpD .eq t5 d) fun t6 =>
 sel t6 (ret (some d3)) (ret none)) xs2) fun t7 =>
 bnd (x__law_same (i - 1) t1 t7) fun t8 =>
 kO (D.tru t8) fun t9 =>
 sel (!t9) (ret (D.bl false)) (nx ())
theorem s_law_5 (j : Nat) (h : 8 ≤ j + 1) (v2_refused : D) (v4_rule : D) (d : D) (nx bk : Cr.Env → M D) : (kP (.nm 10) d [.no, .val D.drw, .val v2_refused, .no, .val v4_rule, .no, .no, .no, .no, .no, .no, .no, .no, .no, .no, .no, .no, .no, .no, .no, .no, .no, .no, .no, .no, .no] fun env => kB (pr.at (j + 1)) b_law_5 env nx nx bk ret) = x_law_5 (j + 1) v4_rule d (fun s => nx ((fun s => [.no, .val D.drw, .val v2_refused, .no, .val v4_rule, .no, .no, .no, .no, .no, .no, .no, .no, .no, .no, .no, .no, .no, .no, .no, .no, .no, .no, .no, .no, .no]) s)) (fun s => bk ((fun s => [.no, .val D.drw, .val v2_refused, .no, .val v4_rule, .no, .no, .no, .no, .no, .no, .no, .no, .no, .no, .no, .no, .no, .no, .no, .no, .no, .no, .no, .no, .no]) s)) := by
  unfold x_law_5
  refine Eq.trans (b := (bnd (callF (pr.at (j + 1)) "_law_told" [(D.int 6), v4_rule, d, (D.int 0)]) fun t1 =>
 kO (rngD [(D.int 24)]) fun xs2 =>
 bnd (lcM (fun d3 =>
 kO (ixD v4_rule (D.int 0)) fun t4 =>
 bnd (callF (pr.at (j + 1)) "_law_hour" [t4, d3]) fun t5 =>
 kO (cmpD .eq t5 d) fun t6 =>
 sel t6 (ret (some d3)) (ret none)) xs2) fun t7 =>
 bnd (callF (pr.at (j + 1)) "_law_same" [t1, t7]) fun t8 =>
 kO (D.tru t8) fun t9 =>
 sel (!t9) (ret (D.bl false)) (nx [.no, .val D.drw, .val v2_refused, .no, .val v4_rule, .no, .no, .no, .no, .no, .no, .no, .no, .no, .no, .no, .no, .no, .no, .no, .no, .no, .no, .no, .no, .no]) : M D)) ((by kernel_rfl)) ?_
  simp only [c__law_hour (j + 1) (by omega), c__law_same (j + 1) (by omega), c__law_told (j + 1) (by omega)]
theorem l_law_5 (j : Nat) (h : 8 ≤ j + 1) (v2_refused : D) (v4_rule : D) (xs : List D) (K : Cr.Env → M D) : forK (fun d env nx bk => kP (.nm 10) d env fun env => kB (pr.at (j + 1)) b_law_5 env nx nx bk ret) xs [.no, .val D.drw, .val v2_refused, .no, .val v4_rule, .no, .no, .no, .no, .no, .no, .no, .no, .no, .no, .no, .no, .no, .no, .no, .no, .no, .no, .no, .no, .no] K = forC (σ := Unit) (fun d s nx bk => x_law_5 (j + 1) v4_rule d nx bk) xs () (fun s => K [.no, .val D.drw, .val v2_refused, .no, .val v4_rule, .no, .no, .no, .no, .no, .no, .no, .no, .no, .no, .no, .no, .no, .no, .no, .no, .no, .no, .no, .no, .no]) :=
  forC_eq (σ := Unit) (fun s => [.no, .val D.drw, .val v2_refused, .no, .val v4_rule, .no, .no, .no, .no, .no, .no, .no, .no, .no, .no, .no, .no, .no, .no, .no, .no, .no, .no, .no, .no, .no]) (fun d s nx bk => s_law_5 j h v2_refused v4_rule d nx bk) xs () K
def x_law_6 (i : Nat) (v2_refused : D) (v4_rule : D) (nx bk : Unit → M D) : M D :=
 bnd (x__law_take (D.int 12)) fun t1 =>
 kO (binD .add (D.int 1) t1) fun wheel2 =>
 bnd (x__law_take (D.int 24)) fun hour3 =>
 bnd (x__law_hour (D.int 12) hour3) fun t4 =>
 kO (binD .sub wheel2 t4) fun t5 =>
 kO (bltD .int [t5]) fun t6 =>
 kO (binD .mod t6 (D.int 12)) fun off7 =>
 bnd (x__law_told (i - 1) (D.int 7) wheel2 hour3 (D.int 0)) fun t8 =>
 bnd (x__law_told (i - 1) (D.int 8) wheel2 hour3 (D.int 0)) fun t9 =>
 kO (binD .sub (D.int 12) off7) fun t10 =>
 kO (bltD .int [t10]) fun t11 =>
 kO (binD .mod t11 (D.int 12)) fun t12 =>
 bnd (x__law_same (i - 1) (D.lst [t8, t9]) (D.lst [off7, t12])) fun t13 =>
 kO (D.tru t13) fun t14 =>
 sel (!t14) (ret (D.bl false)) (kO (asI (D.int 2)) fun t15 =>
 kO (slD v4_rule none (some t15)) fun t16 =>
 kO (bltD .list [v4_rule]) fun t17 =>
 kO (asI (D.int 1)) fun t18 =>
 kO (slD v4_rule (some t18) none) fun t19 =>
 kO (binD .add (D.tup [(D.int 6)]) t19) fun t20 =>
 kO (asI (D.int 1)) fun t21 =>
 kO (slD v4_rule (some t21) none) fun t22 =>
 kO (binD .add (D.tup [(D.bl true)]) t22) fun t23 =>
 kO (negD (D.int 1)) fun t24 =>
 kO (binD .add (D.lst [D.non, t16, t17, t20, t23, (D.tup [(D.int 12), (D.tup [(D.int 1), (D.int 2)]), (D.bl true)]), (D.tup [(D.int 12), (D.lst [(D.int 1), (D.int 2), (D.int 3)]), (D.bl true)]), (D.tup [(D.int 12), (D.tup [(D.int 9), (D.int 0), (D.int 0)]), (D.bl true)])]) (D.lst [(D.tup [(D.int 12), (D.tup [(D.int 0), t24, (D.int 0)]), (D.bl true)]), (D.tup [(D.int 12), (D.tup [(D.int 0), (D.int 0), (D.int 0)]), (D.int 1)]), (D.tup [(D.int 12), (D.tup [(D.bl true), (D.int 0), (D.int 0)]), (D.bl false)]), (D.tup [(D.str "12"), (D.tup [(D.int 0), (D.int 0), (D.int 0)]), (D.bl false)])])) fun t25 =>
 bnd (x__law_pick t25) fun bad26 =>
 kO (negD (D.int 1)) fun t27 =>
 bnd (x__law_pick (D.lst [t27, D.non, (D.bl true), (D.str "0")])) fun cell28 =>
 bnd (lcM (fun d29 =>
 bnd (x__law_told (i - 1) d29 bad26 (D.int 0) (D.int 0)) fun t30 =>
 ret (some t30)) [(D.int 1), (D.int 2), (D.int 3), (D.int 4), (D.int 5), (D.int 6), (D.int 9)]) fun t31 =>
 bnd (lcM (fun d32 =>
 bnd (x__law_told (i - 1) d32 v4_rule cell28 (D.int 0)) fun t33 =>
 ret (some t33)) [(D.int 3), (D.int 4), (D.int 5), (D.int 6)]) fun t34 =>
 kO (binD .add t31 t34) fun odd35 =>
 bnd (x__law_told (i - 1) (D.int 9) v4_rule (D.int 5) (D.int 4)) fun t36 =>
 kO (negD (D.int 1)) fun t37 =>
 bnd (x__law_told (i - 1) (D.int 9) v4_rule t37 (D.int 4)) fun t38 =>
 kO (binD .pow (D.int 10) (D.int 12)) fun t39 =>
 kO (binD .add t39 (D.int 1)) fun t40 =>
 bnd (x__law_told (i - 1) (D.int 9) v4_rule (D.int 0) t40) fun t41 =>
 bnd (x__law_told (i - 1) (D.int 9) v4_rule (D.int 0) cell28) fun t42 =>
 kO (binD .add odd35 (D.lst [t36, t38, t41, t42])) fun odd43 =>
 kO (negD (D.int 1)) fun t44 =>
 bnd (lcM (fun d45 =>
 kO (unD d45) fun l46 =>
 unC l46 fun which47 l48 =>
 unC l48 fun one49 l50 =>
 unC l50 fun two51 l52 =>
 unN l52 (bnd (x__law_told (i - 1) which47 one49 two51 (D.int 0)) fun t53 =>
 ret (some t53))) [(D.tup [(D.int 7), (D.int 0), (D.int 0)]), (D.tup [(D.int 7), (D.int 13), (D.int 0)]), (D.tup [(D.int 8), (D.int 1), (D.int 24)]), (D.tup [(D.int 8), (D.int 1), t44]), (D.tup [(D.int 7), (D.bl true), (D.int 0)]), (D.tup [(D.int 8), (D.int 1), D.non])]) fun t54 =>
 kO (binD .add odd43 t54) fun odd55 =>
 kO (binD .mul (D.lst [v2_refused]) (D.int 21)) fun t56 =>
 bnd (x__law_same (i - 1) odd55 t56) fun t57 =>
 kO (D.tru t57) fun t58 =>
 bnd (sel (!t58) (ret true) (bnd (x_is_striking bad26) fun t59 =>
 kO (cmpD .isnot t59 (D.bl false)) ret)) fun t60 =>
 sel t60 (ret (D.bl false)) (nx ()))
theorem s_law_6 (j : Nat) (h : 8 ≤ j + 1) (v2_refused : D) (v4_rule : D) (nx bk : Cr.Env → M D) : (kB (pr.at (j + 1)) b_law_6 [.no, .val D.drw, .val v2_refused, .no, .val v4_rule, .no, .no, .no, .no, .no, .no, .no, .no, .no, .no, .no, .no, .no, .no, .no, .no, .no, .no, .no, .no, .no] nx nx bk ret) = x_law_6 (j + 1) v2_refused v4_rule (fun s => nx ((fun s => [.no, .val D.drw, .val v2_refused, .no, .no, .no, .no, .no, .no, .no, .no, .no, .no, .no, .no, .no, .no, .no, .no, .no, .no, .no, .no, .no, .no, .no]) s)) (fun s => bk ((fun s => [.no, .val D.drw, .val v2_refused, .no, .no, .no, .no, .no, .no, .no, .no, .no, .no, .no, .no, .no, .no, .no, .no, .no, .no, .no, .no, .no, .no, .no]) s)) := by
  unfold x_law_6
  refine Eq.trans (b := (bnd (callF (pr.at (j + 1)) "_law_take" [D.drw, (D.int 12)]) fun t1 =>
 kO (binD .add (D.int 1) t1) fun wheel2 =>
 bnd (callF (pr.at (j + 1)) "_law_take" [D.drw, (D.int 24)]) fun hour3 =>
 bnd (callF (pr.at (j + 1)) "_law_hour" [(D.int 12), hour3]) fun t4 =>
 kO (binD .sub wheel2 t4) fun t5 =>
 kO (bltD .int [t5]) fun t6 =>
 kO (binD .mod t6 (D.int 12)) fun off7 =>
 bnd (callF (pr.at (j + 1)) "_law_told" [(D.int 7), wheel2, hour3, (D.int 0)]) fun t8 =>
 bnd (callF (pr.at (j + 1)) "_law_told" [(D.int 8), wheel2, hour3, (D.int 0)]) fun t9 =>
 kO (binD .sub (D.int 12) off7) fun t10 =>
 kO (bltD .int [t10]) fun t11 =>
 kO (binD .mod t11 (D.int 12)) fun t12 =>
 bnd (callF (pr.at (j + 1)) "_law_same" [(D.lst [t8, t9]), (D.lst [off7, t12])]) fun t13 =>
 kO (D.tru t13) fun t14 =>
 sel (!t14) (ret (D.bl false)) (kO (asI (D.int 2)) fun t15 =>
 kO (slD v4_rule none (some t15)) fun t16 =>
 kO (bltD .list [v4_rule]) fun t17 =>
 kO (asI (D.int 1)) fun t18 =>
 kO (slD v4_rule (some t18) none) fun t19 =>
 kO (binD .add (D.tup [(D.int 6)]) t19) fun t20 =>
 kO (asI (D.int 1)) fun t21 =>
 kO (slD v4_rule (some t21) none) fun t22 =>
 kO (binD .add (D.tup [(D.bl true)]) t22) fun t23 =>
 kO (negD (D.int 1)) fun t24 =>
 kO (binD .add (D.lst [D.non, t16, t17, t20, t23, (D.tup [(D.int 12), (D.tup [(D.int 1), (D.int 2)]), (D.bl true)]), (D.tup [(D.int 12), (D.lst [(D.int 1), (D.int 2), (D.int 3)]), (D.bl true)]), (D.tup [(D.int 12), (D.tup [(D.int 9), (D.int 0), (D.int 0)]), (D.bl true)])]) (D.lst [(D.tup [(D.int 12), (D.tup [(D.int 0), t24, (D.int 0)]), (D.bl true)]), (D.tup [(D.int 12), (D.tup [(D.int 0), (D.int 0), (D.int 0)]), (D.int 1)]), (D.tup [(D.int 12), (D.tup [(D.bl true), (D.int 0), (D.int 0)]), (D.bl false)]), (D.tup [(D.str "12"), (D.tup [(D.int 0), (D.int 0), (D.int 0)]), (D.bl false)])])) fun t25 =>
 bnd (callF (pr.at (j + 1)) "_law_pick" [D.drw, t25]) fun bad26 =>
 kO (negD (D.int 1)) fun t27 =>
 bnd (callF (pr.at (j + 1)) "_law_pick" [D.drw, (D.lst [t27, D.non, (D.bl true), (D.str "0")])]) fun cell28 =>
 bnd (lcM (fun d29 =>
 bnd (callF (pr.at (j + 1)) "_law_told" [d29, bad26, (D.int 0), (D.int 0)]) fun t30 =>
 ret (some t30)) [(D.int 1), (D.int 2), (D.int 3), (D.int 4), (D.int 5), (D.int 6), (D.int 9)]) fun t31 =>
 bnd (lcM (fun d32 =>
 bnd (callF (pr.at (j + 1)) "_law_told" [d32, v4_rule, cell28, (D.int 0)]) fun t33 =>
 ret (some t33)) [(D.int 3), (D.int 4), (D.int 5), (D.int 6)]) fun t34 =>
 kO (binD .add t31 t34) fun odd35 =>
 bnd (callF (pr.at (j + 1)) "_law_told" [(D.int 9), v4_rule, (D.int 5), (D.int 4)]) fun t36 =>
 kO (negD (D.int 1)) fun t37 =>
 bnd (callF (pr.at (j + 1)) "_law_told" [(D.int 9), v4_rule, t37, (D.int 4)]) fun t38 =>
 kO (binD .pow (D.int 10) (D.int 12)) fun t39 =>
 kO (binD .add t39 (D.int 1)) fun t40 =>
 bnd (callF (pr.at (j + 1)) "_law_told" [(D.int 9), v4_rule, (D.int 0), t40]) fun t41 =>
 bnd (callF (pr.at (j + 1)) "_law_told" [(D.int 9), v4_rule, (D.int 0), cell28]) fun t42 =>
 kO (binD .add odd35 (D.lst [t36, t38, t41, t42])) fun odd43 =>
 kO (negD (D.int 1)) fun t44 =>
 bnd (lcM (fun d45 =>
 kO (unD d45) fun l46 =>
 unC l46 fun which47 l48 =>
 unC l48 fun one49 l50 =>
 unC l50 fun two51 l52 =>
 unN l52 (bnd (callF (pr.at (j + 1)) "_law_told" [which47, one49, two51, (D.int 0)]) fun t53 =>
 ret (some t53))) [(D.tup [(D.int 7), (D.int 0), (D.int 0)]), (D.tup [(D.int 7), (D.int 13), (D.int 0)]), (D.tup [(D.int 8), (D.int 1), (D.int 24)]), (D.tup [(D.int 8), (D.int 1), t44]), (D.tup [(D.int 7), (D.bl true), (D.int 0)]), (D.tup [(D.int 8), (D.int 1), D.non])]) fun t54 =>
 kO (binD .add odd43 t54) fun odd55 =>
 kO (binD .mul (D.lst [v2_refused]) (D.int 21)) fun t56 =>
 bnd (callF (pr.at (j + 1)) "_law_same" [odd55, t56]) fun t57 =>
 kO (D.tru t57) fun t58 =>
 bnd (sel (!t58) (ret true) (bnd (callF (pr.at (j + 1)) "is_striking" [bad26]) fun t59 =>
 kO (cmpD .isnot t59 (D.bl false)) ret)) fun t60 =>
 sel t60 (ret (D.bl false)) (nx [.no, .val D.drw, .val v2_refused, .no, .no, .no, .no, .no, .no, .no, .no, .no, .no, .no, .no, .no, .no, .no, .no, .no, .no, .no, .no, .no, .no, .no])) : M D)) ((by kernel_rfl)) ?_
  simp only [ret_bnd, c__law_hour (j + 1) (by omega), c__law_pick (j + 1) (by omega), c__law_same (j + 1) (by omega), c__law_take (j + 1) (by omega), c__law_told (j + 1) (by omega), c_is_striking (j + 1) (by omega)]
def x_law_4 (i : Nat) (v2_refused : D) (v4_rule : D) (nx bk : Unit → M D) : M D :=
 bnd (x__law_take (D.int 30)) fun t1 =>
 forC (σ := Unit) (fun d s3 nx bk => x_law_5 i v4_rule d nx bk) [(D.int 0), (D.int 1), (D.int 12), (D.int 13), (D.int 24), (D.int 25), t1] () fun s2 =>
 x_law_6 i v2_refused v4_rule nx bk
theorem g_law_4 (j : Nat) (b_law_5 : CS) (b_law_6 : CS) (v2_refused : D) (v4_rule : D) (nx bk : Cr.Env → M D) : (kB (pr.at (j + 1)) (.for_ (.nm 10) (.cons (.lst (.cons (.int 0) (.cons (.int 1) (.cons (.int 12) (.cons (.int 13) (.cons (.int 24) (.cons (.int 25) (.cons (.call "_law_take" (.cons (.var 1) (.cons (.int 30) .nil))) .nil)))))))) .nil) b_law_5 b_law_6) [.no, .val D.drw, .val v2_refused, .no, .val v4_rule, .no, .no, .no, .no, .no, .no, .no, .no, .no, .no, .no, .no, .no, .no, .no, .no, .no, .no, .no, .no, .no] nx nx bk ret) = (bnd (callF (pr.at (j + 1)) "_law_take" [D.drw, (D.int 30)]) fun t1 =>
 forK (fun d env nx bk => kP (.nm 10) d env fun env => kB (pr.at (j + 1)) b_law_5 env nx nx bk ret) [(D.int 0), (D.int 1), (D.int 12), (D.int 13), (D.int 24), (D.int 25), t1] [.no, .val D.drw, .val v2_refused, .no, .val v4_rule, .no, .no, .no, .no, .no, .no, .no, .no, .no, .no, .no, .no, .no, .no, .no, .no, .no, .no, .no, .no, .no] (fun env => kB (pr.at (j + 1)) b_law_6 env nx nx bk ret) : M D) := by kernel_rfl
theorem s_law_4 (j : Nat) (h : 8 ≤ j + 1) (v2_refused : D) (v4_rule : D) (nx bk : Cr.Env → M D) : (kB (pr.at (j + 1)) b_law_4 [.no, .val D.drw, .val v2_refused, .no, .val v4_rule, .no, .no, .no, .no, .no, .no, .no, .no, .no, .no, .no, .no, .no, .no, .no, .no, .no, .no, .no, .no, .no] nx nx bk ret) = x_law_4 (j + 1) v2_refused v4_rule (fun s => nx ((fun s => [.no, .val D.drw, .val v2_refused, .no, .no, .no, .no, .no, .no, .no, .no, .no, .no, .no, .no, .no, .no, .no, .no, .no, .no, .no, .no, .no, .no, .no]) s)) (fun s => bk ((fun s => [.no, .val D.drw, .val v2_refused, .no, .no, .no, .no, .no, .no, .no, .no, .no, .no, .no, .no, .no, .no, .no, .no, .no, .no, .no, .no, .no, .no, .no]) s)) := by
  unfold x_law_4
  refine Eq.trans (b := (bnd (callF (pr.at (j + 1)) "_law_take" [D.drw, (D.int 30)]) fun t1 =>
 forK (fun d env nx bk => kP (.nm 10) d env fun env => kB (pr.at (j + 1)) b_law_5 env nx nx bk ret) [(D.int 0), (D.int 1), (D.int 12), (D.int 13), (D.int 24), (D.int 25), t1] [.no, .val D.drw, .val v2_refused, .no, .val v4_rule, .no, .no, .no, .no, .no, .no, .no, .no, .no, .no, .no, .no, .no, .no, .no, .no, .no, .no, .no, .no, .no] (fun env => kB (pr.at (j + 1)) b_law_6 env nx nx bk ret) : M D)) (g_law_4 j b_law_5 b_law_6 v2_refused v4_rule nx bk) ?_
  simp only [ret_bnd, c__law_take (j + 1) (by omega), l_law_5 j h, s_law_6 j h]
def x_law_2 (i : Nat) (v2_refused : D) (v4_rule : D) (nx bk : Unit → M D) : M D :=
 kO (rngD [(D.int 6)]) fun xs1 =>
 forC (σ := Unit) (fun d s3 nx bk => x_law_3 i v4_rule d nx bk) xs1 () fun s2 =>
 x_law_4 i v2_refused v4_rule nx bk
theorem g_law_2 (j : Nat) (b_law_3 : CS) (b_law_4 : CS) (v2_refused : D) (v4_rule : D) (nx bk : Cr.Env → M D) : (kB (pr.at (j + 1)) (.for_ (.nm 9) (.rng (.cons (.int 6) .nil)) b_law_3 b_law_4) [.no, .val D.drw, .val v2_refused, .no, .val v4_rule, .no, .no, .no, .no, .no, .no, .no, .no, .no, .no, .no, .no, .no, .no, .no, .no, .no, .no, .no, .no, .no] nx nx bk ret) = (kO (rngD [(D.int 6)]) fun xs1 =>
 forK (fun d env nx bk => kP (.nm 9) d env fun env => kB (pr.at (j + 1)) b_law_3 env nx nx bk ret) xs1 [.no, .val D.drw, .val v2_refused, .no, .val v4_rule, .no, .no, .no, .no, .no, .no, .no, .no, .no, .no, .no, .no, .no, .no, .no, .no, .no, .no, .no, .no, .no] (fun env => kB (pr.at (j + 1)) b_law_4 env nx nx bk ret) : M D) := by kernel_rfl
theorem s_law_2 (j : Nat) (h : 8 ≤ j + 1) (v2_refused : D) (v4_rule : D) (nx bk : Cr.Env → M D) : (kB (pr.at (j + 1)) b_law_2 [.no, .val D.drw, .val v2_refused, .no, .val v4_rule, .no, .no, .no, .no, .no, .no, .no, .no, .no, .no, .no, .no, .no, .no, .no, .no, .no, .no, .no, .no, .no] nx nx bk ret) = x_law_2 (j + 1) v2_refused v4_rule (fun s => nx ((fun s => [.no, .val D.drw, .val v2_refused, .no, .no, .no, .no, .no, .no, .no, .no, .no, .no, .no, .no, .no, .no, .no, .no, .no, .no, .no, .no, .no, .no, .no]) s)) (fun s => bk ((fun s => [.no, .val D.drw, .val v2_refused, .no, .no, .no, .no, .no, .no, .no, .no, .no, .no, .no, .no, .no, .no, .no, .no, .no, .no, .no, .no, .no, .no, .no]) s)) := by
  unfold x_law_2
  refine Eq.trans (b := (kO (rngD [(D.int 6)]) fun xs1 =>
 forK (fun d env nx bk => kP (.nm 9) d env fun env => kB (pr.at (j + 1)) b_law_3 env nx nx bk ret) xs1 [.no, .val D.drw, .val v2_refused, .no, .val v4_rule, .no, .no, .no, .no, .no, .no, .no, .no, .no, .no, .no, .no, .no, .no, .no, .no, .no, .no, .no, .no, .no] (fun env => kB (pr.at (j + 1)) b_law_4 env nx nx bk ret) : M D)) (g_law_2 j b_law_3 b_law_4 v2_refused v4_rule nx bk) ?_
  simp only [ret_bnd, l_law_3 j h, s_law_4 j h]
def x_law_0 (i : Nat) (v2_refused : D) (d : D) (nx bk : Unit → M D) : M D :=
 bnd (x__law_rule) fun rule1 =>
 bnd (x__law_day rule1) fun day2 =>
 kO (rngD [(D.int 96)]) fun xs3 =>
 bnd (lcM (fun d4 =>
 kO (ixD day2 d4) fun t5 =>
 kO (cmpD .gt t5 (D.int 0)) fun t6 =>
 sel t6 (ret (some d4)) (ret none)) xs3) fun struck7 =>
 kO (bltD .len [struck7]) fun t8 =>
 kO (binD .sub t8 (D.int 1)) fun t9 =>
 kO (rngD [t9]) fun xs10 =>
 bnd (lcM (fun d11 =>
 kO (binD .add d11 (D.int 1)) fun t12 =>
 kO (ixD struck7 t12) fun t13 =>
 kO (ixD struck7 d11) fun t14 =>
 kO (binD .sub t13 t14) fun t15 =>
 ret (some t15)) xs10) fun t16 =>
 kO (ixD struck7 (D.int 0)) fun t17 =>
 kO (binD .add t17 (D.int 96)) fun t18 =>
 kO (bltD .len [struck7]) fun t19 =>
 kO (binD .sub t19 (D.int 1)) fun t20 =>
 kO (ixD struck7 t20) fun t21 =>
 kO (binD .sub t18 t21) fun t22 =>
 kO (binD .add t16 (D.lst [t22])) fun gaps23 =>
 kO (rngD [(D.int 3)]) fun xs24 =>
 bnd (lcM (fun d25 =>
 bnd (x__law_told (i - 1) d25 rule1 (D.int 0) (D.int 0)) fun t26 =>
 ret (some t26)) xs24) fun t27 =>
 kO (bltD .sum [day2]) fun t28 =>
 kO (bltD .max [gaps23]) fun t29 =>
 kO (binD .mul (D.int 900) t29) fun t30 =>
 bnd (x__law_same (i - 1) t27 (D.lst [(D.bl true), t28, t30])) fun t31 =>
 kO (D.tru t31) fun t32 =>
 sel (!t32) (ret (D.bl false)) (kO (rngD [(D.int 12)]) fun xs33 =>
 forC (σ := Unit) (fun d s35 nx bk => x_law_1 i rule1 d nx bk) xs33 () fun s34 =>
 x_law_2 i v2_refused rule1 nx bk)
theorem g_law_0 (j : Nat) (b_law_1 : CS) (b_law_2 : CS) (v2_refused : D) (d : D) (nx bk : Cr.Env → M D) : (kP (.nm 3) d [.no, .val D.drw, .val v2_refused, .no, .no, .no, .no, .no, .no, .no, .no, .no, .no, .no, .no, .no, .no, .no, .no, .no, .no, .no, .no, .no, .no, .no] fun env => kB (pr.at (j + 1)) (.asg (.nm 4) (.call "_law_rule" (.cons (.var 1) .nil)) (.asg (.nm 6) (.call "_law_day" (.cons (.var 4) .nil)) (.asg (.nm 7) (.lc (.nm 21) (.rng (.cons (.int 96) .nil)) (.cons (.cmp .gt (.ix (.var 6) (.var 21)) (.int 0)) .nil) (.var 21)) (.asg (.nm 8) (.bin .add (.lc (.nm 21) (.rng (.cons (.bin .sub (.blt .len (.cons (.var 7) .nil)) (.int 1)) .nil)) .nil (.bin .sub (.ix (.var 7) (.bin .add (.var 21) (.int 1))) (.ix (.var 7) (.var 21)))) (.lst (.cons (.bin .sub (.bin .add (.ix (.var 7) (.int 0)) (.int 96)) (.ix (.var 7) (.bin .sub (.blt .len (.cons (.var 7) .nil)) (.int 1)))) .nil))) (.ifs (.not (.call "_law_same" (.cons (.lc (.nm 22) (.rng (.cons (.int 3) .nil)) .nil (.call "_law_told" (.cons (.var 22) (.cons (.var 4) (.cons (.int 0) (.cons (.int 0) .nil)))))) (.cons (.lst (.cons (.bl true) (.cons (.blt .sum (.cons (.var 6) .nil)) (.cons (.bin .mul (.int 900) (.blt .max (.cons (.var 8) .nil))) .nil)))) .nil)))) (.ret (.bl false)) (.wip 3 (.wip 6 (.wip 7 (.wip 8 .done)))) (.for_ (.nm 9) (.rng (.cons (.int 12) .nil)) b_law_1 b_law_2)))))) env nx nx bk ret) = (bnd (callF (pr.at (j + 1)) "_law_rule" [D.drw]) fun rule1 =>
 bnd (callF (pr.at (j + 1)) "_law_day" [rule1]) fun day2 =>
 kO (rngD [(D.int 96)]) fun xs3 =>
 bnd (lcM (fun d4 =>
 kO (ixD day2 d4) fun t5 =>
 kO (cmpD .gt t5 (D.int 0)) fun t6 =>
 sel t6 (ret (some d4)) (ret none)) xs3) fun struck7 =>
 kO (bltD .len [struck7]) fun t8 =>
 kO (binD .sub t8 (D.int 1)) fun t9 =>
 kO (rngD [t9]) fun xs10 =>
 bnd (lcM (fun d11 =>
 kO (binD .add d11 (D.int 1)) fun t12 =>
 kO (ixD struck7 t12) fun t13 =>
 kO (ixD struck7 d11) fun t14 =>
 kO (binD .sub t13 t14) fun t15 =>
 ret (some t15)) xs10) fun t16 =>
 kO (ixD struck7 (D.int 0)) fun t17 =>
 kO (binD .add t17 (D.int 96)) fun t18 =>
 kO (bltD .len [struck7]) fun t19 =>
 kO (binD .sub t19 (D.int 1)) fun t20 =>
 kO (ixD struck7 t20) fun t21 =>
 kO (binD .sub t18 t21) fun t22 =>
 kO (binD .add t16 (D.lst [t22])) fun gaps23 =>
 kO (rngD [(D.int 3)]) fun xs24 =>
 bnd (lcM (fun d25 =>
 bnd (callF (pr.at (j + 1)) "_law_told" [d25, rule1, (D.int 0), (D.int 0)]) fun t26 =>
 ret (some t26)) xs24) fun t27 =>
 kO (bltD .sum [day2]) fun t28 =>
 kO (bltD .max [gaps23]) fun t29 =>
 kO (binD .mul (D.int 900) t29) fun t30 =>
 bnd (callF (pr.at (j + 1)) "_law_same" [t27, (D.lst [(D.bl true), t28, t30])]) fun t31 =>
 kO (D.tru t31) fun t32 =>
 sel (!t32) (ret (D.bl false)) (kO (rngD [(D.int 12)]) fun xs33 =>
 forK (fun d env nx bk => kP (.nm 9) d env fun env => kB (pr.at (j + 1)) b_law_1 env nx nx bk ret) xs33 [.no, .val D.drw, .val v2_refused, .no, .val rule1, .no, .no, .no, .no, .no, .no, .no, .no, .no, .no, .no, .no, .no, .no, .no, .no, .no, .no, .no, .no, .no] (fun env => kB (pr.at (j + 1)) b_law_2 env nx nx bk ret)) : M D) := by kernel_rfl
theorem s_law_0 (j : Nat) (h : 8 ≤ j + 1) (v2_refused : D) (d : D) (nx bk : Cr.Env → M D) : (kP (.nm 3) d [.no, .val D.drw, .val v2_refused, .no, .no, .no, .no, .no, .no, .no, .no, .no, .no, .no, .no, .no, .no, .no, .no, .no, .no, .no, .no, .no, .no, .no] fun env => kB (pr.at (j + 1)) b_law_0 env nx nx bk ret) = x_law_0 (j + 1) v2_refused d (fun s => nx ((fun s => [.no, .val D.drw, .val v2_refused, .no, .no, .no, .no, .no, .no, .no, .no, .no, .no, .no, .no, .no, .no, .no, .no, .no, .no, .no, .no, .no, .no, .no]) s)) (fun s => bk ((fun s => [.no, .val D.drw, .val v2_refused, .no, .no, .no, .no, .no, .no, .no, .no, .no, .no, .no, .no, .no, .no, .no, .no, .no, .no, .no, .no, .no, .no, .no]) s)) := by
  unfold x_law_0
  refine Eq.trans (b := (bnd (callF (pr.at (j + 1)) "_law_rule" [D.drw]) fun rule1 =>
 bnd (callF (pr.at (j + 1)) "_law_day" [rule1]) fun day2 =>
 kO (rngD [(D.int 96)]) fun xs3 =>
 bnd (lcM (fun d4 =>
 kO (ixD day2 d4) fun t5 =>
 kO (cmpD .gt t5 (D.int 0)) fun t6 =>
 sel t6 (ret (some d4)) (ret none)) xs3) fun struck7 =>
 kO (bltD .len [struck7]) fun t8 =>
 kO (binD .sub t8 (D.int 1)) fun t9 =>
 kO (rngD [t9]) fun xs10 =>
 bnd (lcM (fun d11 =>
 kO (binD .add d11 (D.int 1)) fun t12 =>
 kO (ixD struck7 t12) fun t13 =>
 kO (ixD struck7 d11) fun t14 =>
 kO (binD .sub t13 t14) fun t15 =>
 ret (some t15)) xs10) fun t16 =>
 kO (ixD struck7 (D.int 0)) fun t17 =>
 kO (binD .add t17 (D.int 96)) fun t18 =>
 kO (bltD .len [struck7]) fun t19 =>
 kO (binD .sub t19 (D.int 1)) fun t20 =>
 kO (ixD struck7 t20) fun t21 =>
 kO (binD .sub t18 t21) fun t22 =>
 kO (binD .add t16 (D.lst [t22])) fun gaps23 =>
 kO (rngD [(D.int 3)]) fun xs24 =>
 bnd (lcM (fun d25 =>
 bnd (callF (pr.at (j + 1)) "_law_told" [d25, rule1, (D.int 0), (D.int 0)]) fun t26 =>
 ret (some t26)) xs24) fun t27 =>
 kO (bltD .sum [day2]) fun t28 =>
 kO (bltD .max [gaps23]) fun t29 =>
 kO (binD .mul (D.int 900) t29) fun t30 =>
 bnd (callF (pr.at (j + 1)) "_law_same" [t27, (D.lst [(D.bl true), t28, t30])]) fun t31 =>
 kO (D.tru t31) fun t32 =>
 sel (!t32) (ret (D.bl false)) (kO (rngD [(D.int 12)]) fun xs33 =>
 forK (fun d env nx bk => kP (.nm 9) d env fun env => kB (pr.at (j + 1)) b_law_1 env nx nx bk ret) xs33 [.no, .val D.drw, .val v2_refused, .no, .val rule1, .no, .no, .no, .no, .no, .no, .no, .no, .no, .no, .no, .no, .no, .no, .no, .no, .no, .no, .no, .no, .no] (fun env => kB (pr.at (j + 1)) b_law_2 env nx nx bk ret)) : M D)) (g_law_0 j b_law_1 b_law_2 v2_refused d nx bk) ?_
  simp only [ret_bnd, c__law_day (j + 1) (by omega), c__law_rule (j + 1) (by omega), c__law_same (j + 1) (by omega), c__law_told (j + 1) (by omega), l_law_1 j h, s_law_2 j h]
theorem l_law_0 (j : Nat) (h : 8 ≤ j + 1) (v2_refused : D) (xs : List D) (K : Cr.Env → M D) : forK (fun d env nx bk => kP (.nm 3) d env fun env => kB (pr.at (j + 1)) b_law_0 env nx nx bk ret) xs [.no, .val D.drw, .val v2_refused, .no, .no, .no, .no, .no, .no, .no, .no, .no, .no, .no, .no, .no, .no, .no, .no, .no, .no, .no, .no, .no, .no, .no] K = forC (σ := Unit) (fun d s nx bk => x_law_0 (j + 1) v2_refused d nx bk) xs () (fun s => K [.no, .val D.drw, .val v2_refused, .no, .no, .no, .no, .no, .no, .no, .no, .no, .no, .no, .no, .no, .no, .no, .no, .no, .no, .no, .no, .no, .no, .no]) :=
  forC_eq (σ := Unit) (fun s => [.no, .val D.drw, .val v2_refused, .no, .no, .no, .no, .no, .no, .no, .no, .no, .no, .no, .no, .no, .no, .no, .no, .no, .no, .no, .no, .no, .no, .no]) (fun d s nx bk => s_law_0 j h v2_refused d nx bk) xs () K
def x_law_7 (i : Nat)  : M D :=
 bnd (x_strokes_at (D.tup [(D.int 12), (D.tup [(D.int 1), (D.int 2), (D.int 3)]), (D.bl false)]) (D.int 0)) fun t1 =>
 bnd (x_strokes_at (D.tup [(D.int 12), (D.tup [(D.int 1), (D.int 2), (D.int 3)]), (D.bl false)]) (D.int 5400)) fun t2 =>
 bnd (x_strokes_a_day (D.tup [(D.int 12), (D.tup [(D.int 1), (D.int 2), (D.int 3)]), (D.bl false)])) fun t3 =>
 bnd (x_strokes_between (D.tup [(D.int 12), (D.tup [(D.int 1), (D.int 2), (D.int 3)]), (D.bl false)]) (D.int 0) (D.int 3601)) fun t4 =>
 bnd (x_hours_heard (D.tup [(D.int 12), (D.tup [(D.int 1), (D.int 2), (D.int 3)]), (D.bl false)]) (D.int 3)) fun t5 =>
 bnd (x_next_striking (D.tup [(D.int 12), (D.tup [(D.int 1), (D.int 2), (D.int 3)]), (D.bl false)]) (D.int 1)) fun t6 =>
 bnd (x_off_by (D.int 3) (D.int 14)) fun t7 =>
 bnd (x_strikes_to_set (D.int 3) (D.int 14)) fun t8 =>
 bnd (x_longest_silence (D.tup [(D.int 12), (D.tup [(D.int 0), (D.int 0), (D.int 0)]), (D.bl false)])) fun t9 =>
 kO (binD .add (D.lst [t1, t2, t3, t4, t5, t6, t7, t8]) (D.lst [t9])) fun t10 =>
 x__law_same (i - 1) t10 (D.lst [(D.int 12), (D.int 2), (D.int 300), (D.int 19), (D.lst [(D.int 3), (D.int 15)]), (D.int 900), (D.int 1), (D.int 11), (D.int 3600)])
theorem s_law_7 (j : Nat) (h : 8 ≤ j + 1) (v2_refused : D) : (kB (pr.at (j + 1)) b_law_7 [.no, .val D.drw, .val v2_refused, .no, .no, .no, .no, .no, .no, .no, .no, .no, .no, .no, .no, .no, .no, .no, .no, .no, .no, .no, .no, .no, .no, .no] (fun _ => ret D.non) (fun _ => bad) (fun _ => bad) ret) = x_law_7 (j + 1) := by
  unfold x_law_7
  refine Eq.trans (b := (bnd (callF (pr.at (j + 1)) "strokes_at" [(D.tup [(D.int 12), (D.tup [(D.int 1), (D.int 2), (D.int 3)]), (D.bl false)]), (D.int 0)]) fun t1 =>
 bnd (callF (pr.at (j + 1)) "strokes_at" [(D.tup [(D.int 12), (D.tup [(D.int 1), (D.int 2), (D.int 3)]), (D.bl false)]), (D.int 5400)]) fun t2 =>
 bnd (callF (pr.at (j + 1)) "strokes_a_day" [(D.tup [(D.int 12), (D.tup [(D.int 1), (D.int 2), (D.int 3)]), (D.bl false)])]) fun t3 =>
 bnd (callF (pr.at (j + 1)) "strokes_between" [(D.tup [(D.int 12), (D.tup [(D.int 1), (D.int 2), (D.int 3)]), (D.bl false)]), (D.int 0), (D.int 3601)]) fun t4 =>
 bnd (callF (pr.at (j + 1)) "hours_heard" [(D.tup [(D.int 12), (D.tup [(D.int 1), (D.int 2), (D.int 3)]), (D.bl false)]), (D.int 3)]) fun t5 =>
 bnd (callF (pr.at (j + 1)) "next_striking" [(D.tup [(D.int 12), (D.tup [(D.int 1), (D.int 2), (D.int 3)]), (D.bl false)]), (D.int 1)]) fun t6 =>
 bnd (callF (pr.at (j + 1)) "off_by" [(D.int 3), (D.int 14)]) fun t7 =>
 bnd (callF (pr.at (j + 1)) "strikes_to_set" [(D.int 3), (D.int 14)]) fun t8 =>
 bnd (callF (pr.at (j + 1)) "longest_silence" [(D.tup [(D.int 12), (D.tup [(D.int 0), (D.int 0), (D.int 0)]), (D.bl false)])]) fun t9 =>
 kO (binD .add (D.lst [t1, t2, t3, t4, t5, t6, t7, t8]) (D.lst [t9])) fun t10 =>
 bnd (callF (pr.at (j + 1)) "_law_same" [t10, (D.lst [(D.int 12), (D.int 2), (D.int 300), (D.int 19), (D.lst [(D.int 3), (D.int 15)]), (D.int 900), (D.int 1), (D.int 11), (D.int 3600)])]) ret : M D)) ((by kernel_rfl)) ?_
  simp only [ret_bnd, c__law_same (j + 1) (by omega), c_hours_heard (j + 1) (by omega), c_longest_silence (j + 1) (by omega), c_next_striking (j + 1) (by omega), c_off_by (j + 1) (by omega), c_strikes_to_set (j + 1) (by omega), c_strokes_a_day (j + 1) (by omega), c_strokes_at (j + 1) (by omega), c_strokes_between (j + 1) (by omega)]
def x_law (i : Nat)  : M D :=
 kO (rngD [(D.int 4)]) fun xs1 =>
 forC (σ := Unit) (fun d s3 nx bk => x_law_0 i (D.lst [(D.bl true), (D.bl false), (D.bl false), (D.bl false), (D.bl false)]) d nx bk) xs1 () fun s2 =>
 x_law_7 i
theorem g_law (j : Nat) (b_law_0 : CS) (b_law_7 : CS) : (kB (pr.at (j + 1)) (.asg (.nm 2) (.lst (.cons (.bl true) (.cons (.bl false) (.cons (.bl false) (.cons (.bl false) (.cons (.bl false) .nil)))))) (.for_ (.nm 3) (.rng (.cons (.int 4) .nil)) b_law_0 b_law_7)) [.no, .val D.drw, .no, .no, .no, .no, .no, .no, .no, .no, .no, .no, .no, .no, .no, .no, .no, .no, .no, .no, .no, .no, .no, .no, .no, .no] (fun _ => ret D.non) (fun _ => bad) (fun _ => bad) ret) = (kO (rngD [(D.int 4)]) fun xs1 =>
 forK (fun d env nx bk => kP (.nm 3) d env fun env => kB (pr.at (j + 1)) b_law_0 env nx nx bk ret) xs1 [.no, .val D.drw, .val (D.lst [(D.bl true), (D.bl false), (D.bl false), (D.bl false), (D.bl false)]), .no, .no, .no, .no, .no, .no, .no, .no, .no, .no, .no, .no, .no, .no, .no, .no, .no, .no, .no, .no, .no, .no, .no] (fun env => kB (pr.at (j + 1)) b_law_7 env (fun _ => ret D.non) (fun _ => bad) (fun _ => bad) ret) : M D) := by kernel_rfl
theorem s_law (j : Nat) (h : 8 ≤ j + 1) : (kB (pr.at (j + 1)) b_law [.no, .val D.drw, .no, .no, .no, .no, .no, .no, .no, .no, .no, .no, .no, .no, .no, .no, .no, .no, .no, .no, .no, .no, .no, .no, .no, .no] (fun _ => ret D.non) (fun _ => bad) (fun _ => bad) ret) = x_law (j + 1) := by
  unfold x_law
  refine Eq.trans (b := (kO (rngD [(D.int 4)]) fun xs1 =>
 forK (fun d env nx bk => kP (.nm 3) d env fun env => kB (pr.at (j + 1)) b_law_0 env nx nx bk ret) xs1 [.no, .val D.drw, .val (D.lst [(D.bl true), (D.bl false), (D.bl false), (D.bl false), (D.bl false)]), .no, .no, .no, .no, .no, .no, .no, .no, .no, .no, .no, .no, .no, .no, .no, .no, .no, .no, .no, .no, .no, .no, .no] (fun env => kB (pr.at (j + 1)) b_law_7 env (fun _ => ret D.non) (fun _ => bad) (fun _ => bad) ret) : M D)) (g_law j b_law_0 b_law_7) ?_
  simp only [ret_bnd, l_law_0 j h, s_law_7 j h]
end K11

namespace K11
open PySem Cr
/-! ### drawing -/
theorem take_ok {b : Nat} (hb : 0 < b) : Ok (x__law_take (.int b)) fun d => ∃ k : Nat, d = .int k ∧ k < b := by
  intro dr
  cases dr with
  | nil => exact ⟨.int 0, [], by kernel_rfl, 0, rfl, hb⟩
  | cons x r =>
    have hb2 : (0 : Int) < (b : Int) := by omega
    have e1 : ((x % (b : Int)).toNat : Int) = x % (b : Int) := Int.toNat_of_nonneg (Int.emod_nonneg x (Int.ne_of_gt hb2))
    refine ⟨.int (x % (b : Int)), r, ?_, (x % (b : Int)).toNat, by rw [e1], by have := Int.emod_lt_of_pos x hb2; have := Int.emod_nonneg x (Int.ne_of_gt hb2); omega⟩
    unfold x__law_take
    rw [bnd_dlen, o_eqI, decide_eq_false (by rw [List.length_cons]; omega), kO_some, sel_f, bnd_dpop, o_int, kO_some, o_mod, decide_eq_true hb2]
    rfl
theorem take_lit (n : Int) (h : 0 < n) : Ok (x__law_take (.int n)) fun d => ∃ k : Nat, d = .int k ∧ (k : Int) < n := by
  obtain ⟨b, rfl⟩ : ∃ b : Nat, n = b := ⟨n.toNat, by omega⟩
  exact (take_ok (by omega)).mono fun d ⟨k, e, hk⟩ => ⟨k, e, by omega⟩
theorem pick_ok {ds : List D} (h0 : 0 < ds.length) : Ok (x__law_pick (.lst ds)) fun d => d ∈ ds := by
  unfold x__law_pick
  simp only [kO_some, kO_none, sel_t, sel_f, bnd_ret, bnd_thr, bnd_bad, ret_bnd, unC_cons, unN_nil, grd_t, grd_f, Bool.not_true, Bool.not_false, Bool.or_true, Bool.or_false, Bool.true_or, Bool.false_or, Bool.true_and, Bool.false_and, Bool.and_true, Bool.and_false, decide_true, decide_false, forC_nil, forC_cons, o_add, o_sub, o_mul, o_div, o_mod, o_pow, o_addL, o_addT, o_addS, o_mulL, o_neg, o_not, o_blD, o_asI, o_truB, o_truI, o_lt, o_le, o_gt, o_ge, o_eqI, o_neI, o_is, o_isnot, o_neB, o_eqB, o_lenT, o_lenL, o_lenS, o_abs, o_max, o_min, o_int, o_intB, o_lstL, o_lstT, o_tupL, o_tupT, o_isiN, o_isiB, o_isiI, o_isiS, o_isiT, o_isiL, ty_bb, ty_bi, ty_bs, ty_bt, ty_bl, ty_ib, ty_ii, ty_is, ty_it, ty_il, ty_sb, ty_si, ty_ss, ty_st, ty_sl, ty_tb, ty_ti, ty_ts, ty_tt, ty_tl, ty_lb, ty_li, ty_ls, ty_lt, ty_ll, ty_db, ty_di, ty_ds, ty_dt, ty_dl, o_ixT, o_ixL, o_itT, o_itL, o_unT, o_unL, o_seqT, o_seqL, o_lstD, o_snoc, o_mkL, o_mkT, o_rev, o_slL, o_slT, isN_non, isN_int, isN_bl, isN_str, isN_tup, isN_lst, o_augA, o_augS, o_sum, o_maxL, o_all]
  refine Ok.bnd (take_ok h0) fun a ⟨k, e, hk⟩ => ?_
  subst e
  rw [o_ixL, atI_ok ds k hk]
  exact Ok.ret (List.getElem_mem _)
/-! ### the same -/
theorem same_row (j : Nat) (x : D) {ds : List D} (hx : ∀ i, ixD x (.int i) = L2.atI ds i) (ih : ∀ d ∈ ds, x__law_same j d d = ret (.bl true)) (k : Unit → M D) :
    forC (σ := Unit) (fun d s nx bk => x__law_same_1 (j + 1) x x d nx bk) ((List.range ds.length).map fun (k : Nat) => D.int (k : Int)) () k = k () := by
  refine forC_fold (fun s _ => s) (fun _ => True) _ _ _ trivial fun d hd s _ => ⟨trivial, fun nx bk => ?_⟩
  obtain ⟨n, hn, rfl⟩ := List.mem_map.mp hd
  have hn2 : n < ds.length := List.mem_range.mp hn
  unfold x__law_same_1
  simp only [hx, atI_ok ds n hn2, kO_some]
  rw [show j + 1 - 1 = j from rfl, ih _ (List.getElem_mem _)]
  simp only [kO_some, kO_none, sel_t, sel_f, bnd_ret, bnd_thr, bnd_bad, ret_bnd, unC_cons, unN_nil, grd_t, grd_f, Bool.not_true, Bool.not_false, Bool.or_true, Bool.or_false, Bool.true_or, Bool.false_or, Bool.true_and, Bool.false_and, Bool.and_true, Bool.and_false, decide_true, decide_false, forC_nil, forC_cons, o_add, o_sub, o_mul, o_div, o_mod, o_pow, o_addL, o_addT, o_addS, o_mulL, o_neg, o_not, o_blD, o_asI, o_truB, o_truI, o_lt, o_le, o_gt, o_ge, o_eqI, o_neI, o_is, o_isnot, o_neB, o_eqB, o_lenT, o_lenL, o_lenS, o_abs, o_max, o_min, o_int, o_intB, o_lstL, o_lstT, o_tupL, o_tupT, o_isiN, o_isiB, o_isiI, o_isiS, o_isiT, o_isiL, ty_bb, ty_bi, ty_bs, ty_bt, ty_bl, ty_ib, ty_ii, ty_is, ty_it, ty_il, ty_sb, ty_si, ty_ss, ty_st, ty_sl, ty_tb, ty_ti, ty_ts, ty_tt, ty_tl, ty_lb, ty_li, ty_ls, ty_lt, ty_ll, ty_db, ty_di, ty_ds, ty_dt, ty_dl, o_ixT, o_ixL, o_itT, o_itL, o_unT, o_unL, o_seqT, o_seqL, o_lstD, o_snoc, o_mkL, o_mkT, o_rev, o_slL, o_slT, isN_non, isN_int, isN_bl, isN_str, isN_tup, isN_lst, o_augA, o_augS, o_sum, o_maxL, o_all]
def Good : Nat → D → Prop
  | _, .non => True
  | _, .bl _ => True
  | _, .int _ => True
  | _, .str s => PyData.strOk s = true
  | n + 1, .tup ds => ds.length ≤ 10000 ∧ ∀ d ∈ ds, Good n d
  | n + 1, .lst ds => ds.length ≤ 10000 ∧ ∀ d ∈ ds, Good n d
  | _, _ => False
theorem same_sc (j : Nat) (x : D) (h : Good 0 x) : x__law_same (j + 1) x x = ret (.bl true) := by
  rw [u__law_same j (by omega)]
  unfold x__law_same_0
  cases x with
  | str s =>
    have hs := eqD_str s s h h
    have hc : cmpD .eq (.str s) (.str s) = some true := by
      show eqD (.str s) (.str s) = _
      rw [hs]
      simp
    simp only [kO_some, kO_none, sel_t, sel_f, bnd_ret, bnd_thr, bnd_bad, ret_bnd, unC_cons, unN_nil, grd_t, grd_f, Bool.not_true, Bool.not_false, Bool.or_true, Bool.or_false, Bool.true_or, Bool.false_or, Bool.true_and, Bool.false_and, Bool.and_true, Bool.and_false, decide_true, decide_false, forC_nil, forC_cons, o_add, o_sub, o_mul, o_div, o_mod, o_pow, o_addL, o_addT, o_addS, o_mulL, o_neg, o_not, o_blD, o_asI, o_truB, o_truI, o_lt, o_le, o_gt, o_ge, o_eqI, o_neI, o_is, o_isnot, o_neB, o_eqB, o_lenT, o_lenL, o_lenS, o_abs, o_max, o_min, o_int, o_intB, o_lstL, o_lstT, o_tupL, o_tupT, o_isiN, o_isiB, o_isiI, o_isiS, o_isiT, o_isiL, ty_bb, ty_bi, ty_bs, ty_bt, ty_bl, ty_ib, ty_ii, ty_is, ty_it, ty_il, ty_sb, ty_si, ty_ss, ty_st, ty_sl, ty_tb, ty_ti, ty_ts, ty_tt, ty_tl, ty_lb, ty_li, ty_ls, ty_lt, ty_ll, ty_db, ty_di, ty_ds, ty_dt, ty_dl, o_ixT, o_ixL, o_itT, o_itL, o_unT, o_unL, o_seqT, o_seqL, o_lstD, o_snoc, o_mkL, o_mkT, o_rev, o_slL, o_slT, isN_non, isN_int, isN_bl, isN_str, isN_tup, isN_lst, o_augA, o_augS, o_sum, o_maxL, o_all, hc]
  | non => simp only [kO_some, kO_none, sel_t, sel_f, bnd_ret, bnd_thr, bnd_bad, ret_bnd, unC_cons, unN_nil, grd_t, grd_f, Bool.not_true, Bool.not_false, Bool.or_true, Bool.or_false, Bool.true_or, Bool.false_or, Bool.true_and, Bool.false_and, Bool.and_true, Bool.and_false, decide_true, decide_false, forC_nil, forC_cons, o_add, o_sub, o_mul, o_div, o_mod, o_pow, o_addL, o_addT, o_addS, o_mulL, o_neg, o_not, o_blD, o_asI, o_truB, o_truI, o_lt, o_le, o_gt, o_ge, o_eqI, o_neI, o_is, o_isnot, o_neB, o_eqB, o_lenT, o_lenL, o_lenS, o_abs, o_max, o_min, o_int, o_intB, o_lstL, o_lstT, o_tupL, o_tupT, o_isiN, o_isiB, o_isiI, o_isiS, o_isiT, o_isiL, ty_bb, ty_bi, ty_bs, ty_bt, ty_bl, ty_ib, ty_ii, ty_is, ty_it, ty_il, ty_sb, ty_si, ty_ss, ty_st, ty_sl, ty_tb, ty_ti, ty_ts, ty_tt, ty_tl, ty_lb, ty_li, ty_ls, ty_lt, ty_ll, ty_db, ty_di, ty_ds, ty_dt, ty_dl, o_ixT, o_ixL, o_itT, o_itL, o_unT, o_unL, o_seqT, o_seqL, o_lstD, o_snoc, o_mkL, o_mkT, o_rev, o_slL, o_slT, isN_non, isN_int, isN_bl, isN_str, isN_tup, isN_lst, o_augA, o_augS, o_sum, o_maxL, o_all]
  | bl b => simp only [kO_some, kO_none, sel_t, sel_f, bnd_ret, bnd_thr, bnd_bad, ret_bnd, unC_cons, unN_nil, grd_t, grd_f, Bool.not_true, Bool.not_false, Bool.or_true, Bool.or_false, Bool.true_or, Bool.false_or, Bool.true_and, Bool.false_and, Bool.and_true, Bool.and_false, decide_true, decide_false, forC_nil, forC_cons, o_add, o_sub, o_mul, o_div, o_mod, o_pow, o_addL, o_addT, o_addS, o_mulL, o_neg, o_not, o_blD, o_asI, o_truB, o_truI, o_lt, o_le, o_gt, o_ge, o_eqI, o_neI, o_is, o_isnot, o_neB, o_eqB, o_lenT, o_lenL, o_lenS, o_abs, o_max, o_min, o_int, o_intB, o_lstL, o_lstT, o_tupL, o_tupT, o_isiN, o_isiB, o_isiI, o_isiS, o_isiT, o_isiL, ty_bb, ty_bi, ty_bs, ty_bt, ty_bl, ty_ib, ty_ii, ty_is, ty_it, ty_il, ty_sb, ty_si, ty_ss, ty_st, ty_sl, ty_tb, ty_ti, ty_ts, ty_tt, ty_tl, ty_lb, ty_li, ty_ls, ty_lt, ty_ll, ty_db, ty_di, ty_ds, ty_dt, ty_dl, o_ixT, o_ixL, o_itT, o_itL, o_unT, o_unL, o_seqT, o_seqL, o_lstD, o_snoc, o_mkL, o_mkT, o_rev, o_slL, o_slT, isN_non, isN_int, isN_bl, isN_str, isN_tup, isN_lst, o_augA, o_augS, o_sum, o_maxL, o_all]
  | int i => simp only [kO_some, kO_none, sel_t, sel_f, bnd_ret, bnd_thr, bnd_bad, ret_bnd, unC_cons, unN_nil, grd_t, grd_f, Bool.not_true, Bool.not_false, Bool.or_true, Bool.or_false, Bool.true_or, Bool.false_or, Bool.true_and, Bool.false_and, Bool.and_true, Bool.and_false, decide_true, decide_false, forC_nil, forC_cons, o_add, o_sub, o_mul, o_div, o_mod, o_pow, o_addL, o_addT, o_addS, o_mulL, o_neg, o_not, o_blD, o_asI, o_truB, o_truI, o_lt, o_le, o_gt, o_ge, o_eqI, o_neI, o_is, o_isnot, o_neB, o_eqB, o_lenT, o_lenL, o_lenS, o_abs, o_max, o_min, o_int, o_intB, o_lstL, o_lstT, o_tupL, o_tupT, o_isiN, o_isiB, o_isiI, o_isiS, o_isiT, o_isiL, ty_bb, ty_bi, ty_bs, ty_bt, ty_bl, ty_ib, ty_ii, ty_is, ty_it, ty_il, ty_sb, ty_si, ty_ss, ty_st, ty_sl, ty_tb, ty_ti, ty_ts, ty_tt, ty_tl, ty_lb, ty_li, ty_ls, ty_lt, ty_ll, ty_db, ty_di, ty_ds, ty_dt, ty_dl, o_ixT, o_ixL, o_itT, o_itL, o_unT, o_unL, o_seqT, o_seqL, o_lstD, o_snoc, o_mkL, o_mkT, o_rev, o_slL, o_slT, isN_non, isN_int, isN_bl, isN_str, isN_tup, isN_lst, o_augA, o_augS, o_sum, o_maxL, o_all]
  | _ => exact h.elim
theorem same_ok : ∀ (n j : Nat) (x : D), Good n x → x__law_same (j + n + 1) x x = ret (.bl true) := by
  intro n
  induction n with
  | zero => exact fun j x hx => same_sc j x hx
  | succ n ih =>
    intro j x hx
    have go : ∀ ds : List D, ds.length ≤ 10000 → (∀ d ∈ ds, Good n d) → ∀ y, (∀ i, ixD y (.int i) = L2.atI ds i) → ∀ k : Unit → M D, (kO (rngD [.int (ds.length : Int)]) fun xs => forC (σ := Unit) (fun d s nx bk => x__law_same_1 (j + n + 1 + 1) y y d nx bk) xs () k) = k () := fun ds hl hd y hy k => by
      rw [rng_one (by omega), kO_some]
      exact same_row (j + n + 1) y hy (fun d hm => ih j d (hd d hm)) k
    cases x with
    | non => exact same_sc _ .non trivial
    | bl b => exact same_sc _ (.bl b) trivial
    | int i => exact same_sc _ (.int i) trivial
    | str s => exact same_sc _ (.str s) hx
    | tup ds =>
      obtain ⟨hl, hd⟩ := hx
      show x__law_same (j + n + 1 + 1) _ _ = _
      rw [u__law_same (j + n + 1) (by omega)]
      simp only [kO_some, kO_none, sel_t, sel_f, bnd_ret, bnd_thr, bnd_bad, ret_bnd, unC_cons, unN_nil, grd_t, grd_f, Bool.not_true, Bool.not_false, Bool.or_true, Bool.or_false, Bool.true_or, Bool.false_or, Bool.true_and, Bool.false_and, Bool.and_true, Bool.and_false, decide_true, decide_false, forC_nil, forC_cons, o_add, o_sub, o_mul, o_div, o_mod, o_pow, o_addL, o_addT, o_addS, o_mulL, o_neg, o_not, o_blD, o_asI, o_truB, o_truI, o_lt, o_le, o_gt, o_ge, o_eqI, o_neI, o_is, o_isnot, o_neB, o_eqB, o_lenT, o_lenL, o_lenS, o_abs, o_max, o_min, o_int, o_intB, o_lstL, o_lstT, o_tupL, o_tupT, o_isiN, o_isiB, o_isiI, o_isiS, o_isiT, o_isiL, ty_bb, ty_bi, ty_bs, ty_bt, ty_bl, ty_ib, ty_ii, ty_is, ty_it, ty_il, ty_sb, ty_si, ty_ss, ty_st, ty_sl, ty_tb, ty_ti, ty_ts, ty_tt, ty_tl, ty_lb, ty_li, ty_ls, ty_lt, ty_ll, ty_db, ty_di, ty_ds, ty_dt, ty_dl, o_ixT, o_ixL, o_itT, o_itL, o_unT, o_unL, o_seqT, o_seqL, o_lstD, o_snoc, o_mkL, o_mkT, o_rev, o_slL, o_slT, isN_non, isN_int, isN_bl, isN_str, isN_tup, isN_lst, o_augA, o_augS, o_sum, o_maxL, o_all, go ds hl hd (.tup ds) (fun _ => rfl)]
      rfl
    | lst ds =>
      obtain ⟨hl, hd⟩ := hx
      show x__law_same (j + n + 1 + 1) _ _ = _
      rw [u__law_same (j + n + 1) (by omega)]
      simp only [kO_some, kO_none, sel_t, sel_f, bnd_ret, bnd_thr, bnd_bad, ret_bnd, unC_cons, unN_nil, grd_t, grd_f, Bool.not_true, Bool.not_false, Bool.or_true, Bool.or_false, Bool.true_or, Bool.false_or, Bool.true_and, Bool.false_and, Bool.and_true, Bool.and_false, decide_true, decide_false, forC_nil, forC_cons, o_add, o_sub, o_mul, o_div, o_mod, o_pow, o_addL, o_addT, o_addS, o_mulL, o_neg, o_not, o_blD, o_asI, o_truB, o_truI, o_lt, o_le, o_gt, o_ge, o_eqI, o_neI, o_is, o_isnot, o_neB, o_eqB, o_lenT, o_lenL, o_lenS, o_abs, o_max, o_min, o_int, o_intB, o_lstL, o_lstT, o_tupL, o_tupT, o_isiN, o_isiB, o_isiI, o_isiS, o_isiT, o_isiL, ty_bb, ty_bi, ty_bs, ty_bt, ty_bl, ty_ib, ty_ii, ty_is, ty_it, ty_il, ty_sb, ty_si, ty_ss, ty_st, ty_sl, ty_tb, ty_ti, ty_ts, ty_tt, ty_tl, ty_lb, ty_li, ty_ls, ty_lt, ty_ll, ty_db, ty_di, ty_ds, ty_dt, ty_dl, o_ixT, o_ixL, o_itT, o_itL, o_unT, o_unL, o_seqT, o_seqL, o_lstD, o_snoc, o_mkL, o_mkT, o_rev, o_slL, o_slT, isN_non, isN_int, isN_bl, isN_str, isN_tup, isN_lst, o_augA, o_augS, o_sum, o_maxL, o_all, go ds hl hd (.lst ds) (fun _ => rfl)]
      rfl
    | _ => exact hx.elim
theorem same_lst (n j : Nat) (ds : List D) (hl : ds.length ≤ 10000) (hd : ∀ d ∈ ds, Good n d) : x__law_same (j + n + 2) (.lst ds) (.lst ds) = ret (.bl true) := same_ok (n + 1) j (.lst ds) ⟨hl, hd⟩
/-! ### errors caught -/
def FL : D := .lst [.bl true, .bl false, .bl false, .bl false, .bl false]
theorem hd_nr (j : Nat) (n c b : Cr.Env → M D) : hd (tryM (pr.at (j + 1)) "TuneError" "_law_flags" (thr ⟨"NotRight", none⟩)) n c b ret = ret FL := by kernel_rfl
theorem check_t : x_check (.bl true) = ret .non := Eq.trans rfl rfl
theorem check_f : x_check (.bl false) = thr ⟨"NotRight", none⟩ := Eq.trans rfl rfl
theorem is_int (i : Int) : x_is_integer (.int i) = ret (.bl true) := Eq.trans rfl rfl
theorem is_int_b (b : Bool) : x_is_integer (.bl b) = ret (.bl false) := Eq.trans rfl rfl
theorem is_int_n : x_is_integer .non = ret (.bl false) := Eq.trans rfl rfl
theorem is_int_s (s : Str) : x_is_integer (.str s) = ret (.bl false) := Eq.trans rfl rfl
theorem is_int_t (l : List D) : x_is_integer (.tup l) = ret (.bl false) := Eq.trans rfl rfl
theorem is_int_l (l : List D) : x_is_integer (.lst l) = ret (.bl false) := Eq.trans rfl rfl
theorem within (i lo hi : Int) : x_is_within (.int i) (.int lo) (.int hi) = ret (.bl (decide (lo ≤ i) && decide (i ≤ hi))) := by
  unfold x_is_within
  simp only [kO_some, kO_none, sel_t, sel_f, bnd_ret, bnd_thr, bnd_bad, ret_bnd, unC_cons, unN_nil, grd_t, grd_f, Bool.not_true, Bool.not_false, Bool.or_true, Bool.or_false, Bool.true_or, Bool.false_or, Bool.true_and, Bool.false_and, Bool.and_true, Bool.and_false, decide_true, decide_false, forC_nil, forC_cons, o_add, o_sub, o_mul, o_div, o_mod, o_pow, o_addL, o_addT, o_addS, o_mulL, o_neg, o_not, o_blD, o_asI, o_truB, o_truI, o_lt, o_le, o_gt, o_ge, o_eqI, o_neI, o_is, o_isnot, o_neB, o_eqB, o_lenT, o_lenL, o_lenS, o_abs, o_max, o_min, o_int, o_intB, o_lstL, o_lstT, o_tupL, o_tupT, o_isiN, o_isiB, o_isiI, o_isiS, o_isiT, o_isiL, ty_bb, ty_bi, ty_bs, ty_bt, ty_bl, ty_ib, ty_ii, ty_is, ty_it, ty_il, ty_sb, ty_si, ty_ss, ty_st, ty_sl, ty_tb, ty_ti, ty_ts, ty_tt, ty_tl, ty_lb, ty_li, ty_ls, ty_lt, ty_ll, ty_db, ty_di, ty_ds, ty_dt, ty_dl, o_ixT, o_ixL, o_itT, o_itL, o_unT, o_unL, o_seqT, o_seqL, o_lstD, o_snoc, o_mkL, o_mkT, o_rev, o_slL, o_slT, isN_non, isN_int, isN_bl, isN_str, isN_tup, isN_lst, o_augA, o_augS, o_sum, o_maxL, o_all, is_int]
  cases decide (lo ≤ i) <;> rfl
theorem within_t {i lo hi : Int} (h : lo ≤ i ∧ i ≤ hi) : x_is_within (.int i) (.int lo) (.int hi) = ret (.bl true) := by
  rw [within, decide_eq_true h.1, decide_eq_true h.2]
  rfl
theorem within_b (b : Bool) (lo hi : D) : x_is_within (.bl b) lo hi = ret (.bl false) := Eq.trans rfl rfl
theorem within_n (lo hi : D) : x_is_within .non lo hi = ret (.bl false) := Eq.trans rfl rfl
theorem within_s (s : Str) (lo hi : D) : x_is_within (.str s) lo hi = ret (.bl false) := Eq.trans rfl rfl
end K11
namespace K11
open PySem Cr
/-! ### rules -/
def R (h a b c : Int) (v : Bool) : D := .tup [.int h, .tup [.int a, .int b, .int c], .bl v]
structure Rl (h a b c : Int) : Prop where
  h : h = 12 ∨ h = 24
  a : 0 ≤ a ∧ a ≤ 8
  b : 0 ≤ b ∧ b ≤ 8
  c : 0 ≤ c ∧ c ≤ 8
def hs (h x : Int) : Int := if 0 < x % h then x % h else h
def F (h a b c : Int) (v : Bool) (s : Int) : Int := if s % 900 = 0 then (if s / 900 % 4 = 0 then hs h (s / 3600 % 24) else if s / 900 % 4 = 1 then a else if s / 900 % 4 = 2 then b + (if v then 1 else 0) else c) else 0
theorem hour_strokes_ok {h : Int} (hh : 0 < h) (x : Int) : x_hour_strokes (.int h) (.int x) = ret (.int (hs h x)) := by
  unfold x_hour_strokes hs
  simp only [kO_some, kO_none, sel_t, sel_f, bnd_ret, bnd_thr, bnd_bad, ret_bnd, unC_cons, unN_nil, grd_t, grd_f, Bool.not_true, Bool.not_false, Bool.or_true, Bool.or_false, Bool.true_or, Bool.false_or, Bool.true_and, Bool.false_and, Bool.and_true, Bool.and_false, decide_true, decide_false, forC_nil, forC_cons, o_add, o_sub, o_mul, o_div, o_mod, o_pow, o_addL, o_addT, o_addS, o_mulL, o_neg, o_not, o_blD, o_asI, o_truB, o_truI, o_lt, o_le, o_gt, o_ge, o_eqI, o_neI, o_is, o_isnot, o_neB, o_eqB, o_lenT, o_lenL, o_lenS, o_abs, o_max, o_min, o_int, o_intB, o_lstL, o_lstT, o_tupL, o_tupT, o_isiN, o_isiB, o_isiI, o_isiS, o_isiT, o_isiL, ty_bb, ty_bi, ty_bs, ty_bt, ty_bl, ty_ib, ty_ii, ty_is, ty_it, ty_il, ty_sb, ty_si, ty_ss, ty_st, ty_sl, ty_tb, ty_ti, ty_ts, ty_tt, ty_tl, ty_lb, ty_li, ty_ls, ty_lt, ty_ll, ty_db, ty_di, ty_ds, ty_dt, ty_dl, o_ixT, o_ixL, o_itT, o_itL, o_unT, o_unL, o_seqT, o_seqL, o_lstD, o_snoc, o_mkL, o_mkT, o_rev, o_slL, o_slT, isN_non, isN_int, isN_bl, isN_str, isN_tup, isN_lst, o_augA, o_augS, o_sum, o_maxL, o_all, decide_eq_true hh]
  by_cases q : 0 < x % h
  · rw [decide_eq_true q, if_pos q, sel_t]
  · rw [decide_eq_false q, if_neg q, sel_f]
theorem d900 : divOk 900 = true := by decide +kernel
theorem d3600 : divOk 3600 = true := by decide +kernel
theorem d86400 : divOk 86400 = true := by decide +kernel
theorem p900 : decide ((0 : Int) < 900) = true := by decide
theorem p4 : decide ((0 : Int) < 4) = true := by decide
theorem p24 : decide ((0 : Int) < 24) = true := by decide
theorem p12 : decide ((0 : Int) < 12) = true := by decide
theorem p96 : decide ((0 : Int) < 96) = true := by decide
theorem p2 : decide ((0 : Int) < 2) = true := by decide
theorem p86400 : decide ((0 : Int) < 86400) = true := by decide
theorem strokes_by_ok {h a b c : Int} (v : Bool) (hh : 0 < h) (s : Int) : x_strokes_by (R h a b c v) (.int s) = ret (.int (F h a b c v s)) := by
  unfold x_strokes_by R F
  simp only [kO_some, kO_none, sel_t, sel_f, bnd_ret, bnd_thr, bnd_bad, ret_bnd, unC_cons, unN_nil, grd_t, grd_f, Bool.not_true, Bool.not_false, Bool.or_true, Bool.or_false, Bool.true_or, Bool.false_or, Bool.true_and, Bool.false_and, Bool.and_true, Bool.and_false, decide_true, decide_false, forC_nil, forC_cons, o_add, o_sub, o_mul, o_div, o_mod, o_pow, o_addL, o_addT, o_addS, o_mulL, o_neg, o_not, o_blD, o_asI, o_truB, o_truI, o_lt, o_le, o_gt, o_ge, o_eqI, o_neI, o_is, o_isnot, o_neB, o_eqB, o_lenT, o_lenL, o_lenS, o_abs, o_max, o_min, o_int, o_intB, o_lstL, o_lstT, o_tupL, o_tupT, o_isiN, o_isiB, o_isiI, o_isiS, o_isiT, o_isiL, ty_bb, ty_bi, ty_bs, ty_bt, ty_bl, ty_ib, ty_ii, ty_is, ty_it, ty_il, ty_sb, ty_si, ty_ss, ty_st, ty_sl, ty_tb, ty_ti, ty_ts, ty_tt, ty_tl, ty_lb, ty_li, ty_ls, ty_lt, ty_ll, ty_db, ty_di, ty_ds, ty_dt, ty_dl, o_ixT, o_ixL, o_itT, o_itL, o_unT, o_unL, o_seqT, o_seqL, o_lstD, o_snoc, o_mkL, o_mkT, o_rev, o_slL, o_slT, isN_non, isN_int, isN_bl, isN_str, isN_tup, isN_lst, o_augA, o_augS, o_sum, o_maxL, o_all, p900, d900, p4, d3600, p24, hour_strokes_ok hh]
  by_cases q : s % 900 = 0
  · rw [decide_eq_true q, if_pos q, Bool.not_true, sel_f]
    by_cases q0 : s / 900 % 4 = 0
    · rw [decide_eq_true q0, if_pos q0, sel_t]
    · rw [decide_eq_false q0, if_neg q0, sel_f]
      by_cases q1 : s / 900 % 4 = 1
      · simp only [if_pos q1, q1, show (1 : Int) - 1 = 0 by omega, at0, kO_some, kO_none, sel_t, sel_f, bnd_ret, bnd_thr, bnd_bad, ret_bnd, unC_cons, unN_nil, grd_t, grd_f, Bool.not_true, Bool.not_false, Bool.or_true, Bool.or_false, Bool.true_or, Bool.false_or, Bool.true_and, Bool.false_and, Bool.and_true, Bool.and_false, decide_true, decide_false, forC_nil, forC_cons, o_add, o_sub, o_mul, o_div, o_mod, o_pow, o_addL, o_addT, o_addS, o_mulL, o_neg, o_not, o_blD, o_asI, o_truB, o_truI, o_lt, o_le, o_gt, o_ge, o_eqI, o_neI, o_is, o_isnot, o_neB, o_eqB, o_lenT, o_lenL, o_lenS, o_abs, o_max, o_min, o_int, o_intB, o_lstL, o_lstT, o_tupL, o_tupT, o_isiN, o_isiB, o_isiI, o_isiS, o_isiT, o_isiL, ty_bb, ty_bi, ty_bs, ty_bt, ty_bl, ty_ib, ty_ii, ty_is, ty_it, ty_il, ty_sb, ty_si, ty_ss, ty_st, ty_sl, ty_tb, ty_ti, ty_ts, ty_tt, ty_tl, ty_lb, ty_li, ty_ls, ty_lt, ty_ll, ty_db, ty_di, ty_ds, ty_dt, ty_dl, o_ixT, o_ixL, o_itT, o_itL, o_unT, o_unL, o_seqT, o_seqL, o_lstD, o_snoc, o_mkL, o_mkT, o_rev, o_slL, o_slT, isN_non, isN_int, isN_bl, isN_str, isN_tup, isN_lst, o_augA, o_augS, o_sum, o_maxL, o_all]
        cases v <;> simp [kO_some, kO_none, sel_t, sel_f, bnd_ret, bnd_thr, bnd_bad, ret_bnd, unC_cons, unN_nil, grd_t, grd_f, Bool.not_true, Bool.not_false, Bool.or_true, Bool.or_false, Bool.true_or, Bool.false_or, Bool.true_and, Bool.false_and, Bool.and_true, Bool.and_false, decide_true, decide_false, forC_nil, forC_cons, o_add, o_sub, o_mul, o_div, o_mod, o_pow, o_addL, o_addT, o_addS, o_mulL, o_neg, o_not, o_blD, o_asI, o_truB, o_truI, o_lt, o_le, o_gt, o_ge, o_eqI, o_neI, o_is, o_isnot, o_neB, o_eqB, o_lenT, o_lenL, o_lenS, o_abs, o_max, o_min, o_int, o_intB, o_lstL, o_lstT, o_tupL, o_tupT, o_isiN, o_isiB, o_isiI, o_isiS, o_isiT, o_isiL, ty_bb, ty_bi, ty_bs, ty_bt, ty_bl, ty_ib, ty_ii, ty_is, ty_it, ty_il, ty_sb, ty_si, ty_ss, ty_st, ty_sl, ty_tb, ty_ti, ty_ts, ty_tt, ty_tl, ty_lb, ty_li, ty_ls, ty_lt, ty_ll, ty_db, ty_di, ty_ds, ty_dt, ty_dl, o_ixT, o_ixL, o_itT, o_itL, o_unT, o_unL, o_seqT, o_seqL, o_lstD, o_snoc, o_mkL, o_mkT, o_rev, o_slL, o_slT, isN_non, isN_int, isN_bl, isN_str, isN_tup, isN_lst, o_augA, o_augS, o_sum, o_maxL, o_all]
      · by_cases q2 : s / 900 % 4 = 2
        · simp only [if_neg q1, if_pos q2, q2, show (2 : Int) - 1 = 1 by omega, at1, kO_some, kO_none, sel_t, sel_f, bnd_ret, bnd_thr, bnd_bad, ret_bnd, unC_cons, unN_nil, grd_t, grd_f, Bool.not_true, Bool.not_false, Bool.or_true, Bool.or_false, Bool.true_or, Bool.false_or, Bool.true_and, Bool.false_and, Bool.and_true, Bool.and_false, decide_true, decide_false, forC_nil, forC_cons, o_add, o_sub, o_mul, o_div, o_mod, o_pow, o_addL, o_addT, o_addS, o_mulL, o_neg, o_not, o_blD, o_asI, o_truB, o_truI, o_lt, o_le, o_gt, o_ge, o_eqI, o_neI, o_is, o_isnot, o_neB, o_eqB, o_lenT, o_lenL, o_lenS, o_abs, o_max, o_min, o_int, o_intB, o_lstL, o_lstT, o_tupL, o_tupT, o_isiN, o_isiB, o_isiI, o_isiS, o_isiT, o_isiL, ty_bb, ty_bi, ty_bs, ty_bt, ty_bl, ty_ib, ty_ii, ty_is, ty_it, ty_il, ty_sb, ty_si, ty_ss, ty_st, ty_sl, ty_tb, ty_ti, ty_ts, ty_tt, ty_tl, ty_lb, ty_li, ty_ls, ty_lt, ty_ll, ty_db, ty_di, ty_ds, ty_dt, ty_dl, o_ixT, o_ixL, o_itT, o_itL, o_unT, o_unL, o_seqT, o_seqL, o_lstD, o_snoc, o_mkL, o_mkT, o_rev, o_slL, o_slT, isN_non, isN_int, isN_bl, isN_str, isN_tup, isN_lst, o_augA, o_augS, o_sum, o_maxL, o_all]
          cases v <;> simp [kO_some, kO_none, sel_t, sel_f, bnd_ret, bnd_thr, bnd_bad, ret_bnd, unC_cons, unN_nil, grd_t, grd_f, Bool.not_true, Bool.not_false, Bool.or_true, Bool.or_false, Bool.true_or, Bool.false_or, Bool.true_and, Bool.false_and, Bool.and_true, Bool.and_false, decide_true, decide_false, forC_nil, forC_cons, o_add, o_sub, o_mul, o_div, o_mod, o_pow, o_addL, o_addT, o_addS, o_mulL, o_neg, o_not, o_blD, o_asI, o_truB, o_truI, o_lt, o_le, o_gt, o_ge, o_eqI, o_neI, o_is, o_isnot, o_neB, o_eqB, o_lenT, o_lenL, o_lenS, o_abs, o_max, o_min, o_int, o_intB, o_lstL, o_lstT, o_tupL, o_tupT, o_isiN, o_isiB, o_isiI, o_isiS, o_isiT, o_isiL, ty_bb, ty_bi, ty_bs, ty_bt, ty_bl, ty_ib, ty_ii, ty_is, ty_it, ty_il, ty_sb, ty_si, ty_ss, ty_st, ty_sl, ty_tb, ty_ti, ty_ts, ty_tt, ty_tl, ty_lb, ty_li, ty_ls, ty_lt, ty_ll, ty_db, ty_di, ty_ds, ty_dt, ty_dl, o_ixT, o_ixL, o_itT, o_itL, o_unT, o_unL, o_seqT, o_seqL, o_lstD, o_snoc, o_mkL, o_mkT, o_rev, o_slL, o_slT, isN_non, isN_int, isN_bl, isN_str, isN_tup, isN_lst, o_augA, o_augS, o_sum, o_maxL, o_all]
        · have q3 : s / 900 % 4 = 3 := by omega
          simp only [if_neg q1, if_neg q2, q3, show (3 : Int) - 1 = 2 by omega, at2, kO_some, kO_none, sel_t, sel_f, bnd_ret, bnd_thr, bnd_bad, ret_bnd, unC_cons, unN_nil, grd_t, grd_f, Bool.not_true, Bool.not_false, Bool.or_true, Bool.or_false, Bool.true_or, Bool.false_or, Bool.true_and, Bool.false_and, Bool.and_true, Bool.and_false, decide_true, decide_false, forC_nil, forC_cons, o_add, o_sub, o_mul, o_div, o_mod, o_pow, o_addL, o_addT, o_addS, o_mulL, o_neg, o_not, o_blD, o_asI, o_truB, o_truI, o_lt, o_le, o_gt, o_ge, o_eqI, o_neI, o_is, o_isnot, o_neB, o_eqB, o_lenT, o_lenL, o_lenS, o_abs, o_max, o_min, o_int, o_intB, o_lstL, o_lstT, o_tupL, o_tupT, o_isiN, o_isiB, o_isiI, o_isiS, o_isiT, o_isiL, ty_bb, ty_bi, ty_bs, ty_bt, ty_bl, ty_ib, ty_ii, ty_is, ty_it, ty_il, ty_sb, ty_si, ty_ss, ty_st, ty_sl, ty_tb, ty_ti, ty_ts, ty_tt, ty_tl, ty_lb, ty_li, ty_ls, ty_lt, ty_ll, ty_db, ty_di, ty_ds, ty_dt, ty_dl, o_ixT, o_ixL, o_itT, o_itL, o_unT, o_unL, o_seqT, o_seqL, o_lstD, o_snoc, o_mkL, o_mkT, o_rev, o_slL, o_slT, isN_non, isN_int, isN_bl, isN_str, isN_tup, isN_lst, o_augA, o_augS, o_sum, o_maxL, o_all]
          cases v <;> simp [kO_some, kO_none, sel_t, sel_f, bnd_ret, bnd_thr, bnd_bad, ret_bnd, unC_cons, unN_nil, grd_t, grd_f, Bool.not_true, Bool.not_false, Bool.or_true, Bool.or_false, Bool.true_or, Bool.false_or, Bool.true_and, Bool.false_and, Bool.and_true, Bool.and_false, decide_true, decide_false, forC_nil, forC_cons, o_add, o_sub, o_mul, o_div, o_mod, o_pow, o_addL, o_addT, o_addS, o_mulL, o_neg, o_not, o_blD, o_asI, o_truB, o_truI, o_lt, o_le, o_gt, o_ge, o_eqI, o_neI, o_is, o_isnot, o_neB, o_eqB, o_lenT, o_lenL, o_lenS, o_abs, o_max, o_min, o_int, o_intB, o_lstL, o_lstT, o_tupL, o_tupT, o_isiN, o_isiB, o_isiI, o_isiS, o_isiT, o_isiL, ty_bb, ty_bi, ty_bs, ty_bt, ty_bl, ty_ib, ty_ii, ty_is, ty_it, ty_il, ty_sb, ty_si, ty_ss, ty_st, ty_sl, ty_tb, ty_ti, ty_ts, ty_tt, ty_tl, ty_lb, ty_li, ty_ls, ty_lt, ty_ll, ty_db, ty_di, ty_ds, ty_dt, ty_dl, o_ixT, o_ixL, o_itT, o_itL, o_unT, o_unL, o_seqT, o_seqL, o_lstD, o_snoc, o_mkL, o_mkT, o_rev, o_slL, o_slT, isN_non, isN_int, isN_bl, isN_str, isN_tup, isN_lst, o_augA, o_augS, o_sum, o_maxL, o_all]
  · rw [decide_eq_false q, if_neg q, Bool.not_false, sel_t]
theorem striking_ok {h a b c : Int} (r : Rl h a b c) (v : Bool) : x_is_striking (R h a b c v) = ret (.bl true) := by
  have h1 : x_is_within (.int h) (.int 12) (.int 24) = ret (.bl true) := within_t (by rcases r.h with e | e <;> omega)
  have h2 : cmpD .notin (.int h) (.tup [.int 12, .int 24]) = some false := by
    rcases r.h with rfl | rfl <;> kernel_rfl
  have h3 : lcM (fun d17 => bnd (x_is_within d17 (D.int 0) (D.int (8))) fun t18 => ret (some t18)) [.int a, .int b, .int c] = ret (.lst (([true, true, true] : List Bool).map .bl)) := by
    rw [lcM_map (fun _ => .bl true)]
    · rfl
    · intro d hd
      simp only [List.mem_cons, List.not_mem_nil, or_false] at hd
      rcases hd with rfl | rfl | rfl
      · rw [within_t r.a, bnd_ret]
      · rw [within_t r.b, bnd_ret]
      · rw [within_t r.c, bnd_ret]
  unfold x_is_striking R
  simp only [kO_some, kO_none, sel_t, sel_f, bnd_ret, bnd_thr, bnd_bad, ret_bnd, unC_cons, unN_nil, grd_t, grd_f, Bool.not_true, Bool.not_false, Bool.or_true, Bool.or_false, Bool.true_or, Bool.false_or, Bool.true_and, Bool.false_and, Bool.and_true, Bool.and_false, decide_true, decide_false, forC_nil, forC_cons, o_add, o_sub, o_mul, o_div, o_mod, o_pow, o_addL, o_addT, o_addS, o_mulL, o_neg, o_not, o_blD, o_asI, o_truB, o_truI, o_lt, o_le, o_gt, o_ge, o_eqI, o_neI, o_is, o_isnot, o_neB, o_eqB, o_lenT, o_lenL, o_lenS, o_abs, o_max, o_min, o_int, o_intB, o_lstL, o_lstT, o_tupL, o_tupT, o_isiN, o_isiB, o_isiI, o_isiS, o_isiT, o_isiL, ty_bb, ty_bi, ty_bs, ty_bt, ty_bl, ty_ib, ty_ii, ty_is, ty_it, ty_il, ty_sb, ty_si, ty_ss, ty_st, ty_sl, ty_tb, ty_ti, ty_ts, ty_tt, ty_tl, ty_lb, ty_li, ty_ls, ty_lt, ty_ll, ty_db, ty_di, ty_ds, ty_dt, ty_dl, o_ixT, o_ixL, o_itT, o_itL, o_unT, o_unL, o_seqT, o_seqL, o_lstD, o_snoc, o_mkL, o_mkT, o_rev, o_slL, o_slT, isN_non, isN_int, isN_bl, isN_str, isN_tup, isN_lst, o_augA, o_augS, o_sum, o_maxL, o_all, at0, at1, at2, h1, h2, List.length_cons, List.length_nil]
  have e3 : decide ((((0 + 1 + 1 + 1 : Nat) : Int)) = 3) = true := by decide
  simp only [kO_some, kO_none, sel_t, sel_f, bnd_ret, bnd_thr, bnd_bad, ret_bnd, unC_cons, unN_nil, grd_t, grd_f, Bool.not_true, Bool.not_false, Bool.or_true, Bool.or_false, Bool.true_or, Bool.false_or, Bool.true_and, Bool.false_and, Bool.and_true, Bool.and_false, decide_true, decide_false, forC_nil, forC_cons, o_add, o_sub, o_mul, o_div, o_mod, o_pow, o_addL, o_addT, o_addS, o_mulL, o_neg, o_not, o_blD, o_asI, o_truB, o_truI, o_lt, o_le, o_gt, o_ge, o_eqI, o_neI, o_is, o_isnot, o_neB, o_eqB, o_lenT, o_lenL, o_lenS, o_abs, o_max, o_min, o_int, o_intB, o_lstL, o_lstT, o_tupL, o_tupT, o_isiN, o_isiB, o_isiI, o_isiS, o_isiT, o_isiL, ty_bb, ty_bi, ty_bs, ty_bt, ty_bl, ty_ib, ty_ii, ty_is, ty_it, ty_il, ty_sb, ty_si, ty_ss, ty_st, ty_sl, ty_tb, ty_ti, ty_ts, ty_tt, ty_tl, ty_lb, ty_li, ty_ls, ty_lt, ty_ll, ty_db, ty_di, ty_ds, ty_dt, ty_dl, o_ixT, o_ixL, o_itT, o_itL, o_unT, o_unL, o_seqT, o_seqL, o_lstD, o_snoc, o_mkL, o_mkT, o_rev, o_slL, o_slT, isN_non, isN_int, isN_bl, isN_str, isN_tup, isN_lst, o_augA, o_augS, o_sum, o_maxL, o_all, e3, h3]
  rfl
theorem check_ok {h a b c : Int} (r : Rl h a b c) (v : Bool) : x_check_striking (R h a b c v) = ret .non := by
  unfold x_check_striking
  simp only [kO_some, kO_none, sel_t, sel_f, bnd_ret, bnd_thr, bnd_bad, ret_bnd, unC_cons, unN_nil, grd_t, grd_f, Bool.not_true, Bool.not_false, Bool.or_true, Bool.or_false, Bool.true_or, Bool.false_or, Bool.true_and, Bool.false_and, Bool.and_true, Bool.and_false, decide_true, decide_false, forC_nil, forC_cons, o_add, o_sub, o_mul, o_div, o_mod, o_pow, o_addL, o_addT, o_addS, o_mulL, o_neg, o_not, o_blD, o_asI, o_truB, o_truI, o_lt, o_le, o_gt, o_ge, o_eqI, o_neI, o_is, o_isnot, o_neB, o_eqB, o_lenT, o_lenL, o_lenS, o_abs, o_max, o_min, o_int, o_intB, o_lstL, o_lstT, o_tupL, o_tupT, o_isiN, o_isiB, o_isiI, o_isiS, o_isiT, o_isiL, ty_bb, ty_bi, ty_bs, ty_bt, ty_bl, ty_ib, ty_ii, ty_is, ty_it, ty_il, ty_sb, ty_si, ty_ss, ty_st, ty_sl, ty_tb, ty_ti, ty_ts, ty_tt, ty_tl, ty_lb, ty_li, ty_ls, ty_lt, ty_ll, ty_db, ty_di, ty_ds, ty_dt, ty_dl, o_ixT, o_ixL, o_itT, o_itL, o_unT, o_unL, o_seqT, o_seqL, o_lstD, o_snoc, o_mkL, o_mkT, o_rev, o_slL, o_slT, isN_non, isN_int, isN_bl, isN_str, isN_tup, isN_lst, o_augA, o_augS, o_sum, o_maxL, o_all, striking_ok r v, check_t]
/-! ### the law's day -/
def G (h a b c : Int) (v : Bool) (k : Nat) : Int := F h a b c v (900 * (k : Int))
def day (h a b c : Int) (v : Bool) : List Int := (List.range 96).map (G h a b c v)
theorem day12 (a b c : Int) (v : Bool) : x__law_day (R 12 a b c v) = ret (.lst ((day 12 a b c v).map .int)) := by kernel_rfl
theorem day24 (a b c : Int) (v : Bool) : x__law_day (R 24 a b c v) = ret (.lst ((day 24 a b c v).map .int)) := by kernel_rfl
theorem day_ok {h a b c : Int} (r : Rl h a b c) (v : Bool) : x__law_day (R h a b c v) = ret (.lst ((day h a b c v).map .int)) := by
  rcases r.h with rfl | rfl
  · exact day12 a b c v
  · exact day24 a b c v
/-! ### sums -/
def sumG (h a b c : Int) (v : Bool) (n : Nat) : Int := ((List.range n).map (G h a b c v)).sum
theorem rng900 {x : Int} (n : Nat) (h0 : 0 ≤ x) (h1 : x ≤ 86400) (hn : (n : Int) = (x + 899) / 900) : rngD [.int 0, .int x, .int 900] = some ((List.range n).map fun (k : Nat) => D.int (900 * (k : Int))) := by
  have hs : Builtin.Range.rangeSize 0 x 900 = (n : Int) := by
    unfold Builtin.Range.rangeSize
    rw [if_pos (by omega)]
    split <;> omega
  rw [rng_three (by omega) (by omega) (by omega) hs (by omega)]
  refine congrArg some (List.map_congr_left fun k _ => ?_)
  rw [Int.zero_add, Int.mul_comm]
theorem row_ok {h a b c : Int} (v : Bool) (hh : 0 < h) (n : Nat) : lcM (fun d => bnd (x_strokes_by (R h a b c v) d) fun t => ret (some t)) ((List.range n).map fun (k : Nat) => D.int (900 * (k : Int))) = ret (.lst (((List.range n).map (G h a b c v)).map .int)) := by
  rw [lcM_mapT (fun k => .int (G h a b c v k)) fun k _ => by rw [strokes_by_ok v hh, bnd_ret]; rfl, List.map_map]
  rfl
theorem ahead_ok {h a b c : Int} (v : Bool) (hh : 0 < h) {s : Int} (h0 : 0 ≤ s) (h1 : s ≤ 1000000000000) : x_strokes_ahead (R h a b c v) (.int s) = ret (.int (s / 86400 * sumG h a b c v 96 + sumG h a b c v ((s % 86400 + 899) / 900).toNat)) := by
  have hn : ((((s % 86400 + 899) / 900).toNat : Nat) : Int) = (s % 86400 + 899) / 900 := by omega
  unfold x_strokes_ahead
  simp only [kO_some, kO_none, sel_t, sel_f, bnd_ret, bnd_thr, bnd_bad, ret_bnd, unC_cons, unN_nil, grd_t, grd_f, Bool.not_true, Bool.not_false, Bool.or_true, Bool.or_false, Bool.true_or, Bool.false_or, Bool.true_and, Bool.false_and, Bool.and_true, Bool.and_false, decide_true, decide_false, forC_nil, forC_cons, o_add, o_sub, o_mul, o_div, o_mod, o_pow, o_addL, o_addT, o_addS, o_mulL, o_neg, o_not, o_blD, o_asI, o_truB, o_truI, o_lt, o_le, o_gt, o_ge, o_eqI, o_neI, o_is, o_isnot, o_neB, o_eqB, o_lenT, o_lenL, o_lenS, o_abs, o_max, o_min, o_int, o_intB, o_lstL, o_lstT, o_tupL, o_tupT, o_isiN, o_isiB, o_isiI, o_isiS, o_isiT, o_isiL, ty_bb, ty_bi, ty_bs, ty_bt, ty_bl, ty_ib, ty_ii, ty_is, ty_it, ty_il, ty_sb, ty_si, ty_ss, ty_st, ty_sl, ty_tb, ty_ti, ty_ts, ty_tt, ty_tl, ty_lb, ty_li, ty_ls, ty_lt, ty_ll, ty_db, ty_di, ty_ds, ty_dt, ty_dl, o_ixT, o_ixL, o_itT, o_itL, o_unT, o_unL, o_seqT, o_seqL, o_lstD, o_snoc, o_mkL, o_mkT, o_rev, o_slL, o_slT, isN_non, isN_int, isN_bl, isN_str, isN_tup, isN_lst, o_augA, o_augS, o_sum, o_maxL, o_all, d86400, p86400, rng900 96 (show (0 : Int) ≤ 86400 by omega) (by omega) (by omega), rng900 _ (show (0 : Int) ≤ s % 86400 by omega) (by omega) hn, row_ok v hh]
  rw [mul_ok' (by omega)]
  rfl
theorem G_per {h a b c : Int} (v : Bool) (k : Nat) : G h a b c v (k % 96) = G h a b c v k := by
  unfold G F
  have e1 : (900 * ((k % 96 : Nat) : Int)) % 900 = 900 * (k : Int) % 900 := by omega
  have e2 : (900 * ((k % 96 : Nat) : Int)) / 900 % 4 = 900 * (k : Int) / 900 % 4 := by omega
  have e3 : (900 * ((k % 96 : Nat) : Int)) / 3600 % 24 = 900 * (k : Int) / 3600 % 24 := by omega
  rw [e1, e2, e3]
theorem day_take {h a b c : Int} (v : Bool) {n : Nat} (hn : n ≤ 96) : ((day h a b c v).take n).sum = sumG h a b c v n := by
  unfold day sumG
  rw [← List.map_take, List.take_range, Nat.min_eq_left hn]
theorem lahead_ok {h a b c : Int} (r : Rl h a b c) (v : Bool) {s : Int} (h0 : 0 ≤ s) (h1 : s ≤ 1000000000000) : x__law_ahead (R h a b c v) (.int s) = ret (.int ((s + 899) / 900 / 96 * sumG h a b c v 96 + sumG h a b c v ((s + 899) / 900 % 96).toNat)) := by
  have d96 : divOk 96 = true := by decide +kernel
  have hk : (s + 899) / 900 % 96 = (((s + 899) / 900 % 96).toNat : Int) := by omega
  have hd : (day h a b c v).sum = sumG h a b c v 96 := rfl
  unfold x__law_ahead
  simp only [kO_some, kO_none, sel_t, sel_f, bnd_ret, bnd_thr, bnd_bad, ret_bnd, unC_cons, unN_nil, grd_t, grd_f, Bool.not_true, Bool.not_false, Bool.or_true, Bool.or_false, Bool.true_or, Bool.false_or, Bool.true_and, Bool.false_and, Bool.and_true, Bool.and_false, decide_true, decide_false, forC_nil, forC_cons, o_add, o_sub, o_mul, o_div, o_mod, o_pow, o_addL, o_addT, o_addS, o_mulL, o_neg, o_not, o_blD, o_asI, o_truB, o_truI, o_lt, o_le, o_gt, o_ge, o_eqI, o_neI, o_is, o_isnot, o_neB, o_eqB, o_lenT, o_lenL, o_lenS, o_abs, o_max, o_min, o_int, o_intB, o_lstL, o_lstT, o_tupL, o_tupT, o_isiN, o_isiB, o_isiI, o_isiS, o_isiT, o_isiL, ty_bb, ty_bi, ty_bs, ty_bt, ty_bl, ty_ib, ty_ii, ty_is, ty_it, ty_il, ty_sb, ty_si, ty_ss, ty_st, ty_sl, ty_tb, ty_ti, ty_ts, ty_tt, ty_tl, ty_lb, ty_li, ty_ls, ty_lt, ty_ll, ty_db, ty_di, ty_ds, ty_dt, ty_dl, o_ixT, o_ixL, o_itT, o_itL, o_unT, o_unL, o_seqT, o_seqL, o_lstD, o_snoc, o_mkL, o_mkT, o_rev, o_slL, o_slT, isN_non, isN_int, isN_bl, isN_str, isN_tup, isN_lst, o_augA, o_augS, o_sum, o_maxL, o_all, day_ok r v, d900, d96, p96]
  rw [mul_ok' (by omega), hk, cut_take, ← List.map_take]
  simp only [kO_some, kO_none, sel_t, sel_f, bnd_ret, bnd_thr, bnd_bad, ret_bnd, unC_cons, unN_nil, grd_t, grd_f, Bool.not_true, Bool.not_false, Bool.or_true, Bool.or_false, Bool.true_or, Bool.false_or, Bool.true_and, Bool.false_and, Bool.and_true, Bool.and_false, decide_true, decide_false, forC_nil, forC_cons, o_add, o_sub, o_mul, o_div, o_mod, o_pow, o_addL, o_addT, o_addS, o_mulL, o_neg, o_not, o_blD, o_asI, o_truB, o_truI, o_lt, o_le, o_gt, o_ge, o_eqI, o_neI, o_is, o_isnot, o_neB, o_eqB, o_lenT, o_lenL, o_lenS, o_abs, o_max, o_min, o_int, o_intB, o_lstL, o_lstT, o_tupL, o_tupT, o_isiN, o_isiB, o_isiI, o_isiS, o_isiT, o_isiL, ty_bb, ty_bi, ty_bs, ty_bt, ty_bl, ty_ib, ty_ii, ty_is, ty_it, ty_il, ty_sb, ty_si, ty_ss, ty_st, ty_sl, ty_tb, ty_ti, ty_ts, ty_tt, ty_tl, ty_lb, ty_li, ty_ls, ty_lt, ty_ll, ty_db, ty_di, ty_ds, ty_dt, ty_dl, o_ixT, o_ixL, o_itT, o_itL, o_unT, o_unL, o_seqT, o_seqL, o_lstD, o_snoc, o_mkL, o_mkT, o_rev, o_slL, o_slT, isN_non, isN_int, isN_bl, isN_str, isN_tup, isN_lst, o_augA, o_augS, o_sum, o_maxL, o_all]
  rw [day_take v (by omega), hd]
  rfl
theorem ahead_same {h a b c : Int} (v : Bool) {s : Int} (h0 : 0 ≤ s) : (s + 899) / 900 / 96 * sumG h a b c v 96 + sumG h a b c v ((s + 899) / 900 % 96).toNat = s / 86400 * sumG h a b c v 96 + sumG h a b c v ((s % 86400 + 899) / 900).toNat := by
  by_cases q : (s % 86400 + 899) / 900 = 96
  · have e1 : (s + 899) / 900 / 96 = s / 86400 + 1 := by omega
    have e2 : (s + 899) / 900 % 96 = 0 := by omega
    rw [e1, e2, q, Int.add_mul, Int.one_mul]
    show _ + sumG h a b c v 0 = _ + sumG h a b c v 96
    have : sumG h a b c v 0 = 0 := rfl
    omega
  · have e1 : (s + 899) / 900 / 96 = s / 86400 := by omega
    have e2 : (s + 899) / 900 % 96 = (s % 86400 + 899) / 900 := by omega
    rw [e1, e2]
/-! ### the program's answers -/
def SA (h a b c : Int) (v : Bool) (s : Int) : Int := s / 86400 * sumG h a b c v 96 + sumG h a b c v ((s % 86400 + 899) / 900).toNat
theorem Rl.pos {h a b c : Int} (r : Rl h a b c) : 0 < h := by rcases r.h with e | e <;> omega
theorem count_ok (s : Int) : x_is_count (.int s) = ret (.bl (decide (0 ≤ s))) := by
  unfold x_is_count
  simp only [kO_some, kO_none, sel_t, sel_f, bnd_ret, bnd_thr, bnd_bad, ret_bnd, unC_cons, unN_nil, grd_t, grd_f, Bool.not_true, Bool.not_false, Bool.or_true, Bool.or_false, Bool.true_or, Bool.false_or, Bool.true_and, Bool.false_and, Bool.and_true, Bool.and_false, decide_true, decide_false, forC_nil, forC_cons, o_add, o_sub, o_mul, o_div, o_mod, o_pow, o_addL, o_addT, o_addS, o_mulL, o_neg, o_not, o_blD, o_asI, o_truB, o_truI, o_lt, o_le, o_gt, o_ge, o_eqI, o_neI, o_is, o_isnot, o_neB, o_eqB, o_lenT, o_lenL, o_lenS, o_abs, o_max, o_min, o_int, o_intB, o_lstL, o_lstT, o_tupL, o_tupT, o_isiN, o_isiB, o_isiI, o_isiS, o_isiT, o_isiL, ty_bb, ty_bi, ty_bs, ty_bt, ty_bl, ty_ib, ty_ii, ty_is, ty_it, ty_il, ty_sb, ty_si, ty_ss, ty_st, ty_sl, ty_tb, ty_ti, ty_ts, ty_tt, ty_tl, ty_lb, ty_li, ty_ls, ty_lt, ty_ll, ty_db, ty_di, ty_ds, ty_dt, ty_dl, o_ixT, o_ixL, o_itT, o_itL, o_unT, o_unL, o_seqT, o_seqL, o_lstD, o_snoc, o_mkL, o_mkT, o_rev, o_slL, o_slT, isN_non, isN_int, isN_bl, isN_str, isN_tup, isN_lst, o_augA, o_augS, o_sum, o_maxL, o_all, is_int]
theorem at_ok {h a b c : Int} (r : Rl h a b c) (v : Bool) {s : Int} (h0 : 0 ≤ s) : x_strokes_at (R h a b c v) (.int s) = ret (.int (F h a b c v s)) := by
  unfold x_strokes_at
  simp only [kO_some, kO_none, sel_t, sel_f, bnd_ret, bnd_thr, bnd_bad, ret_bnd, unC_cons, unN_nil, grd_t, grd_f, Bool.not_true, Bool.not_false, Bool.or_true, Bool.or_false, Bool.true_or, Bool.false_or, Bool.true_and, Bool.false_and, Bool.and_true, Bool.and_false, decide_true, decide_false, forC_nil, forC_cons, o_add, o_sub, o_mul, o_div, o_mod, o_pow, o_addL, o_addT, o_addS, o_mulL, o_neg, o_not, o_blD, o_asI, o_truB, o_truI, o_lt, o_le, o_gt, o_ge, o_eqI, o_neI, o_is, o_isnot, o_neB, o_eqB, o_lenT, o_lenL, o_lenS, o_abs, o_max, o_min, o_int, o_intB, o_lstL, o_lstT, o_tupL, o_tupT, o_isiN, o_isiB, o_isiI, o_isiS, o_isiT, o_isiL, ty_bb, ty_bi, ty_bs, ty_bt, ty_bl, ty_ib, ty_ii, ty_is, ty_it, ty_il, ty_sb, ty_si, ty_ss, ty_st, ty_sl, ty_tb, ty_ti, ty_ts, ty_tt, ty_tl, ty_lb, ty_li, ty_ls, ty_lt, ty_ll, ty_db, ty_di, ty_ds, ty_dt, ty_dl, o_ixT, o_ixL, o_itT, o_itL, o_unT, o_unL, o_seqT, o_seqL, o_lstD, o_snoc, o_mkL, o_mkT, o_rev, o_slL, o_slT, isN_non, isN_int, isN_bl, isN_str, isN_tup, isN_lst, o_augA, o_augS, o_sum, o_maxL, o_all, check_ok r v, count_ok, decide_eq_true h0, check_t, strokes_by_ok v r.pos]
theorem between_ok {h a b c : Int} (r : Rl h a b c) (v : Bool) {s t : Int} (h0 : 0 ≤ s) (h1 : s ≤ t) (h2 : t ≤ 1000000000000) : x_strokes_between (R h a b c v) (.int s) (.int t) = ret (.int (SA h a b c v t - SA h a b c v s)) := by
  unfold x_strokes_between
  simp only [kO_some, kO_none, sel_t, sel_f, bnd_ret, bnd_thr, bnd_bad, ret_bnd, unC_cons, unN_nil, grd_t, grd_f, Bool.not_true, Bool.not_false, Bool.or_true, Bool.or_false, Bool.true_or, Bool.false_or, Bool.true_and, Bool.false_and, Bool.and_true, Bool.and_false, decide_true, decide_false, forC_nil, forC_cons, o_add, o_sub, o_mul, o_div, o_mod, o_pow, o_addL, o_addT, o_addS, o_mulL, o_neg, o_not, o_blD, o_asI, o_truB, o_truI, o_lt, o_le, o_gt, o_ge, o_eqI, o_neI, o_is, o_isnot, o_neB, o_eqB, o_lenT, o_lenL, o_lenS, o_abs, o_max, o_min, o_int, o_intB, o_lstL, o_lstT, o_tupL, o_tupT, o_isiN, o_isiB, o_isiI, o_isiS, o_isiT, o_isiL, ty_bb, ty_bi, ty_bs, ty_bt, ty_bl, ty_ib, ty_ii, ty_is, ty_it, ty_il, ty_sb, ty_si, ty_ss, ty_st, ty_sl, ty_tb, ty_ti, ty_ts, ty_tt, ty_tl, ty_lb, ty_li, ty_ls, ty_lt, ty_ll, ty_db, ty_di, ty_ds, ty_dt, ty_dl, o_ixT, o_ixL, o_itT, o_itL, o_unT, o_unL, o_seqT, o_seqL, o_lstD, o_snoc, o_mkL, o_mkT, o_rev, o_slL, o_slT, isN_non, isN_int, isN_bl, isN_str, isN_tup, isN_lst, o_augA, o_augS, o_sum, o_maxL, o_all, check_ok r v, within_t (show (0 : Int) ≤ s ∧ s ≤ 1000000000000 by omega), within_t (show s ≤ t ∧ t ≤ 1000000000000 by omega), check_t, ahead_ok v r.pos (show (0 : Int) ≤ t by omega) h2, ahead_ok v r.pos h0 (show s ≤ 1000000000000 by omega)]
  rfl
theorem aday_ok {h a b c : Int} (r : Rl h a b c) (v : Bool) : x_strokes_a_day (R h a b c v) = ret (.int (sumG h a b c v 96)) := by
  unfold x_strokes_a_day
  simp only [kO_some, kO_none, sel_t, sel_f, bnd_ret, bnd_thr, bnd_bad, ret_bnd, unC_cons, unN_nil, grd_t, grd_f, Bool.not_true, Bool.not_false, Bool.or_true, Bool.or_false, Bool.true_or, Bool.false_or, Bool.true_and, Bool.false_and, Bool.and_true, Bool.and_false, decide_true, decide_false, forC_nil, forC_cons, o_add, o_sub, o_mul, o_div, o_mod, o_pow, o_addL, o_addT, o_addS, o_mulL, o_neg, o_not, o_blD, o_asI, o_truB, o_truI, o_lt, o_le, o_gt, o_ge, o_eqI, o_neI, o_is, o_isnot, o_neB, o_eqB, o_lenT, o_lenL, o_lenS, o_abs, o_max, o_min, o_int, o_intB, o_lstL, o_lstT, o_tupL, o_tupT, o_isiN, o_isiB, o_isiI, o_isiS, o_isiT, o_isiL, ty_bb, ty_bi, ty_bs, ty_bt, ty_bl, ty_ib, ty_ii, ty_is, ty_it, ty_il, ty_sb, ty_si, ty_ss, ty_st, ty_sl, ty_tb, ty_ti, ty_ts, ty_tt, ty_tl, ty_lb, ty_li, ty_ls, ty_lt, ty_ll, ty_db, ty_di, ty_ds, ty_dt, ty_dl, o_ixT, o_ixL, o_itT, o_itL, o_unT, o_unL, o_seqT, o_seqL, o_lstD, o_snoc, o_mkL, o_mkT, o_rev, o_slL, o_slT, isN_non, isN_int, isN_bl, isN_str, isN_tup, isN_lst, o_augA, o_augS, o_sum, o_maxL, o_all, check_ok r v, ahead_ok v r.pos (show (0 : Int) ≤ 86400 by omega) (by omega)]
  have e1 : (86400 : Int) / 86400 = 1 := by omega
  have e2 : ((86400 : Int) % 86400 + 899) / 900 = 0 := by omega
  rw [e1, e2, Int.one_mul]
  have : sumG h a b c v (Int.toNat 0) = 0 := rfl
  rw [this, Int.add_zero]
theorem now_ok {h a b c : Int} (r : Rl h a b c) (v : Bool) {s : Int} (h0 : 0 ≤ s) : x_is_striking_now (R h a b c v) (.int s) = ret (.bl (decide (s % 900 % 2 = 0) && decide (s % 900 / 2 < F h a b c v (s - s % 900)))) := by
  have d2 : divOk 2 = true := by decide +kernel
  unfold x_is_striking_now
  simp only [kO_some, kO_none, sel_t, sel_f, bnd_ret, bnd_thr, bnd_bad, ret_bnd, unC_cons, unN_nil, grd_t, grd_f, Bool.not_true, Bool.not_false, Bool.or_true, Bool.or_false, Bool.true_or, Bool.false_or, Bool.true_and, Bool.false_and, Bool.and_true, Bool.and_false, decide_true, decide_false, forC_nil, forC_cons, o_add, o_sub, o_mul, o_div, o_mod, o_pow, o_addL, o_addT, o_addS, o_mulL, o_neg, o_not, o_blD, o_asI, o_truB, o_truI, o_lt, o_le, o_gt, o_ge, o_eqI, o_neI, o_is, o_isnot, o_neB, o_eqB, o_lenT, o_lenL, o_lenS, o_abs, o_max, o_min, o_int, o_intB, o_lstL, o_lstT, o_tupL, o_tupT, o_isiN, o_isiB, o_isiI, o_isiS, o_isiT, o_isiL, ty_bb, ty_bi, ty_bs, ty_bt, ty_bl, ty_ib, ty_ii, ty_is, ty_it, ty_il, ty_sb, ty_si, ty_ss, ty_st, ty_sl, ty_tb, ty_ti, ty_ts, ty_tt, ty_tl, ty_lb, ty_li, ty_ls, ty_lt, ty_ll, ty_db, ty_di, ty_ds, ty_dt, ty_dl, o_ixT, o_ixL, o_itT, o_itL, o_unT, o_unL, o_seqT, o_seqL, o_lstD, o_snoc, o_mkL, o_mkT, o_rev, o_slL, o_slT, isN_non, isN_int, isN_bl, isN_str, isN_tup, isN_lst, o_augA, o_augS, o_sum, o_maxL, o_all, check_ok r v, count_ok, decide_eq_true h0, check_t, p900, p2, d2, strokes_by_ok v r.pos]
  cases decide (s % 900 % 2 = 0) <;> rfl
theorem heard_ok {h a b c : Int} (r : Rl h a b c) (v : Bool) {n : Int} (h0 : 0 ≤ n) : x_hours_heard (R h a b c v) (.int n) = ret (.lst (((List.range 24).filter fun (k : Nat) => decide (hs h (k : Int) = n)).map fun (k : Nat) => .int (k : Int))) := by
  unfold x_hours_heard
  simp only [kO_some, kO_none, sel_t, sel_f, bnd_ret, bnd_thr, bnd_bad, ret_bnd, unC_cons, unN_nil, grd_t, grd_f, Bool.not_true, Bool.not_false, Bool.or_true, Bool.or_false, Bool.true_or, Bool.false_or, Bool.true_and, Bool.false_and, Bool.and_true, Bool.and_false, decide_true, decide_false, forC_nil, forC_cons, o_add, o_sub, o_mul, o_div, o_mod, o_pow, o_addL, o_addT, o_addS, o_mulL, o_neg, o_not, o_blD, o_asI, o_truB, o_truI, o_lt, o_le, o_gt, o_ge, o_eqI, o_neI, o_is, o_isnot, o_neB, o_eqB, o_lenT, o_lenL, o_lenS, o_abs, o_max, o_min, o_int, o_intB, o_lstL, o_lstT, o_tupL, o_tupT, o_isiN, o_isiB, o_isiI, o_isiS, o_isiT, o_isiL, ty_bb, ty_bi, ty_bs, ty_bt, ty_bl, ty_ib, ty_ii, ty_is, ty_it, ty_il, ty_sb, ty_si, ty_ss, ty_st, ty_sl, ty_tb, ty_ti, ty_ts, ty_tt, ty_tl, ty_lb, ty_li, ty_ls, ty_lt, ty_ll, ty_db, ty_di, ty_ds, ty_dt, ty_dl, o_ixT, o_ixL, o_itT, o_itL, o_unT, o_unL, o_seqT, o_seqL, o_lstD, o_snoc, o_mkL, o_mkT, o_rev, o_slL, o_slT, isN_non, isN_int, isN_bl, isN_str, isN_tup, isN_lst, o_augA, o_augS, o_sum, o_maxL, o_all, check_ok r v, count_ok, decide_eq_true h0, check_t]
  rw [show rngD [D.int 24] = _ from rng_one (m := 24) (by omega), kO_some]
  refine lcM_filT _ _ fun k _ => ?_
  unfold R
  simp only [kO_some, kO_none, sel_t, sel_f, bnd_ret, bnd_thr, bnd_bad, ret_bnd, unC_cons, unN_nil, grd_t, grd_f, Bool.not_true, Bool.not_false, Bool.or_true, Bool.or_false, Bool.true_or, Bool.false_or, Bool.true_and, Bool.false_and, Bool.and_true, Bool.and_false, decide_true, decide_false, forC_nil, forC_cons, o_add, o_sub, o_mul, o_div, o_mod, o_pow, o_addL, o_addT, o_addS, o_mulL, o_neg, o_not, o_blD, o_asI, o_truB, o_truI, o_lt, o_le, o_gt, o_ge, o_eqI, o_neI, o_is, o_isnot, o_neB, o_eqB, o_lenT, o_lenL, o_lenS, o_abs, o_max, o_min, o_int, o_intB, o_lstL, o_lstT, o_tupL, o_tupT, o_isiN, o_isiB, o_isiI, o_isiS, o_isiT, o_isiL, ty_bb, ty_bi, ty_bs, ty_bt, ty_bl, ty_ib, ty_ii, ty_is, ty_it, ty_il, ty_sb, ty_si, ty_ss, ty_st, ty_sl, ty_tb, ty_ti, ty_ts, ty_tt, ty_tl, ty_lb, ty_li, ty_ls, ty_lt, ty_ll, ty_db, ty_di, ty_ds, ty_dt, ty_dl, o_ixT, o_ixL, o_itT, o_itL, o_unT, o_unL, o_seqT, o_seqL, o_lstD, o_snoc, o_mkL, o_mkT, o_rev, o_slL, o_slT, isN_non, isN_int, isN_bl, isN_str, isN_tup, isN_lst, o_augA, o_augS, o_sum, o_maxL, o_all, at0, hour_strokes_ok r.pos]
  cases decide (hs h (k : Int) = n) <;> rfl
/-! ### the next stroke -/
theorem F_G {h a b c : Int} (v : Bool) (m : Nat) (s : Int) (e : s = 900 * (m : Int)) : F h a b c v s = G h a b c v m := by
  subst e
  rfl
theorem G_hour {h a b c : Int} (r : Rl h a b c) (v : Bool) (m : Nat) : 0 < G h a b c v (4 * m) := by
  unfold G F hs
  have e1 : 900 * ((4 * m : Nat) : Int) % 900 = 0 := by omega
  have e2 : 900 * ((4 * m : Nat) : Int) / 900 % 4 = 0 := by omega
  rw [if_pos e1, if_pos e2]
  have := r.pos
  split <;> omega
/-- the first quarter from q on that is heard -/
theorem first_ex {h a b c : Int} (r : Rl h a b c) (v : Bool) (q : Nat) : ∃ m, m ≤ 3 ∧ 0 < G h a b c v (q + m) ∧ ∀ i, i < m → ¬ 0 < G h a b c v (q + i) := by
  have h0 : ∃ m, m ≤ 3 ∧ 0 < G h a b c v (q + m) := ⟨(4 - q % 4) % 4, by omega, by
    have : q + (4 - q % 4) % 4 = 4 * ((q + 3) / 4) := by omega
    rw [this]
    exact G_hour r v _⟩
  by_cases p0 : 0 < G h a b c v (q + 0)
  · exact ⟨0, by omega, p0, fun i hi => by omega⟩
  by_cases p1 : 0 < G h a b c v (q + 1)
  · exact ⟨1, by omega, p1, fun i hi => by
      obtain rfl : i = 0 := by omega
      exact p0⟩
  by_cases p2 : 0 < G h a b c v (q + 2)
  · exact ⟨2, by omega, p2, fun i hi => by
      rcases (by omega : i = 0 ∨ i = 1) with rfl | rfl
      · exact p0
      · exact p1⟩
  obtain ⟨m, hm, pm⟩ := h0
  have : m = 3 := by
    rcases (by omega : m = 0 ∨ m = 1 ∨ m = 2 ∨ m = 3) with rfl | rfl | rfl | rfl
    · exact absurd pm p0
    · exact absurd pm p1
    · exact absurd pm p2
    · rfl
  subst this
  exact ⟨3, by omega, pm, fun i hi => by
    rcases (by omega : i = 0 ∨ i = 1 ∨ i = 2) with rfl | rfl | rfl
    · exact p0
    · exact p1
    · exact p2⟩
theorem G_nn {h a b c : Int} (r : Rl h a b c) (v : Bool) (k : Nat) : 0 ≤ G h a b c v k := by
  unfold G F hs
  have := r.pos
  have := r.a
  have := r.b
  have := r.c
  repeat' split
  all_goals omega
def stepI (d : D) : D := match d with
  | .int i => .int (i + 900)
  | d => d
theorem step_rep (q : Int) : ∀ m : Nat, Nat.repeat stepI m (.int q) = .int (q + 900 * (m : Int))
  | 0 => by simp [Nat.repeat]
  | m + 1 => by
    show stepI (Nat.repeat stepI m (.int q)) = _
    rw [step_rep q m]
    show D.int (q + 900 * (m : Int) + 900) = _
    congr 1
    omega
theorem next_ok {h a b c : Int} (r : Rl h a b c) (v : Bool) {s : Int} (h0 : 0 ≤ s) {m : Nat} (hm : m ≤ 3) (p : 0 < G h a b c v (((s + 899) / 900).toNat + m)) (l : ∀ i, i < m → ¬ 0 < G h a b c v (((s + 899) / 900).toNat + i)) :
    x_next_striking (R h a b c v) (.int s) = ret (.int (((s + 899) / 900 + (m : Int)) * 900)) := by
  obtain ⟨q, hq⟩ : ∃ q : Nat, (s + 899) / 900 = (q : Int) := ⟨((s + 899) / 900).toNat, by omega⟩
  have e9 : s + 900 - 1 = s + 899 := by omega
  unfold x_next_striking
  simp only [kO_some, kO_none, sel_t, sel_f, bnd_ret, bnd_thr, bnd_bad, ret_bnd, unC_cons, unN_nil, grd_t, grd_f, Bool.not_true, Bool.not_false, Bool.or_true, Bool.or_false, Bool.true_or, Bool.false_or, Bool.true_and, Bool.false_and, Bool.and_true, Bool.and_false, decide_true, decide_false, forC_nil, forC_cons, o_add, o_sub, o_mul, o_div, o_mod, o_pow, o_addL, o_addT, o_addS, o_mulL, o_neg, o_not, o_blD, o_asI, o_truB, o_truI, o_lt, o_le, o_gt, o_ge, o_eqI, o_neI, o_is, o_isnot, o_neB, o_eqB, o_lenT, o_lenL, o_lenS, o_abs, o_max, o_min, o_int, o_intB, o_lstL, o_lstT, o_tupL, o_tupT, o_isiN, o_isiB, o_isiI, o_isiS, o_isiT, o_isiL, ty_bb, ty_bi, ty_bs, ty_bt, ty_bl, ty_ib, ty_ii, ty_is, ty_it, ty_il, ty_sb, ty_si, ty_ss, ty_st, ty_sl, ty_tb, ty_ti, ty_ts, ty_tt, ty_tl, ty_lb, ty_li, ty_ls, ty_lt, ty_ll, ty_db, ty_di, ty_ds, ty_dt, ty_dl, o_ixT, o_ixL, o_itT, o_itL, o_unT, o_unL, o_seqT, o_seqL, o_lstD, o_snoc, o_mkL, o_mkT, o_rev, o_slL, o_slT, isN_non, isN_int, isN_bl, isN_str, isN_tup, isN_lst, o_augA, o_augS, o_sum, o_maxL, o_all, check_ok r v, count_ok, decide_eq_true h0, check_t, d900, e9]
  rw [mul_ok (by omega), hq]
  rw [hq, Int.toNat_natCast] at p l
  simp only [kO_some, kO_none, sel_t, sel_f, bnd_ret, bnd_thr, bnd_bad, ret_bnd, unC_cons, unN_nil, grd_t, grd_f, Bool.not_true, Bool.not_false, Bool.or_true, Bool.or_false, Bool.true_or, Bool.false_or, Bool.true_and, Bool.false_and, Bool.and_true, Bool.and_false, decide_true, decide_false, forC_nil, forC_cons, o_add, o_sub, o_mul, o_div, o_mod, o_pow, o_addL, o_addT, o_addS, o_mulL, o_neg, o_not, o_blD, o_asI, o_truB, o_truI, o_lt, o_le, o_gt, o_ge, o_eqI, o_neI, o_is, o_isnot, o_neB, o_eqB, o_lenT, o_lenL, o_lenS, o_abs, o_max, o_min, o_int, o_intB, o_lstL, o_lstT, o_tupL, o_tupT, o_isiN, o_isiB, o_isiI, o_isiS, o_isiT, o_isiL, ty_bb, ty_bi, ty_bs, ty_bt, ty_bl, ty_ib, ty_ii, ty_is, ty_it, ty_il, ty_sb, ty_si, ty_ss, ty_st, ty_sl, ty_tb, ty_ti, ty_ts, ty_tt, ty_tl, ty_lb, ty_li, ty_ls, ty_lt, ty_ll, ty_db, ty_di, ty_ds, ty_dt, ty_dl, o_ixT, o_ixL, o_itT, o_itL, o_unT, o_unL, o_seqT, o_seqL, o_lstD, o_snoc, o_mkL, o_mkT, o_rev, o_slL, o_slT, isN_non, isN_int, isN_bl, isN_str, isN_tup, isN_lst, o_augA, o_augS, o_sum, o_maxL, o_all]
  have fl := fuel_le
  have cnd : ∀ x : Nat, ∀ K : Bool → M D, x_next_striking_0c (R h a b c v) (.int ((x : Int) * 900)) K = K (decide (G h a b c v x = 0)) := fun x K => by
    unfold x_next_striking_0c
    simp only [kO_some, kO_none, sel_t, sel_f, bnd_ret, bnd_thr, bnd_bad, ret_bnd, unC_cons, unN_nil, grd_t, grd_f, Bool.not_true, Bool.not_false, Bool.or_true, Bool.or_false, Bool.true_or, Bool.false_or, Bool.true_and, Bool.false_and, Bool.and_true, Bool.and_false, decide_true, decide_false, forC_nil, forC_cons, o_add, o_sub, o_mul, o_div, o_mod, o_pow, o_addL, o_addT, o_addS, o_mulL, o_neg, o_not, o_blD, o_asI, o_truB, o_truI, o_lt, o_le, o_gt, o_ge, o_eqI, o_neI, o_is, o_isnot, o_neB, o_eqB, o_lenT, o_lenL, o_lenS, o_abs, o_max, o_min, o_int, o_intB, o_lstL, o_lstT, o_tupL, o_tupT, o_isiN, o_isiB, o_isiI, o_isiS, o_isiT, o_isiL, ty_bb, ty_bi, ty_bs, ty_bt, ty_bl, ty_ib, ty_ii, ty_is, ty_it, ty_il, ty_sb, ty_si, ty_ss, ty_st, ty_sl, ty_tb, ty_ti, ty_ts, ty_tt, ty_tl, ty_lb, ty_li, ty_ls, ty_lt, ty_ll, ty_db, ty_di, ty_ds, ty_dt, ty_dl, o_ixT, o_ixL, o_itT, o_itL, o_unT, o_unL, o_seqT, o_seqL, o_lstD, o_snoc, o_mkL, o_mkT, o_rev, o_slL, o_slT, isN_non, isN_int, isN_bl, isN_str, isN_tup, isN_lst, o_augA, o_augS, o_sum, o_maxL, o_all, strokes_by_ok v r.pos, F_G v x ((x : Int) * 900) (by omega)]
  rw [whlC_run (fun s => x_next_striking_1 s) stepI (fun d => match d with
      | .int i => decide (G h a b c v (i / 900).toNat = 0)
      | _ => false) (fun d => ∃ x : Nat, d = .int ((x : Int) * 900)) (fun d ⟨x, e⟩ K => by
        subst e
        rw [cnd]
        have : ((x : Int) * 900 / 900).toNat = x := by omega
        dsimp only
        rw [this]) (fun d ⟨x, e⟩ _ => by
        subst e
        refine ⟨⟨x + 1, ?_⟩, fun nx bk => ?_⟩
        · show D.int ((x : Int) * 900 + 900) = _
          congr 1
          omega
        · unfold x_next_striking_0
          simp only [kO_some, kO_none, sel_t, sel_f, bnd_ret, bnd_thr, bnd_bad, ret_bnd, unC_cons, unN_nil, grd_t, grd_f, Bool.not_true, Bool.not_false, Bool.or_true, Bool.or_false, Bool.true_or, Bool.false_or, Bool.true_and, Bool.false_and, Bool.and_true, Bool.and_false, decide_true, decide_false, forC_nil, forC_cons, o_add, o_sub, o_mul, o_div, o_mod, o_pow, o_addL, o_addT, o_addS, o_mulL, o_neg, o_not, o_blD, o_asI, o_truB, o_truI, o_lt, o_le, o_gt, o_ge, o_eqI, o_neI, o_is, o_isnot, o_neB, o_eqB, o_lenT, o_lenL, o_lenS, o_abs, o_max, o_min, o_int, o_intB, o_lstL, o_lstT, o_tupL, o_tupT, o_isiN, o_isiB, o_isiI, o_isiS, o_isiT, o_isiL, ty_bb, ty_bi, ty_bs, ty_bt, ty_bl, ty_ib, ty_ii, ty_is, ty_it, ty_il, ty_sb, ty_si, ty_ss, ty_st, ty_sl, ty_tb, ty_ti, ty_ts, ty_tt, ty_tl, ty_lb, ty_li, ty_ls, ty_lt, ty_ll, ty_db, ty_di, ty_ds, ty_dt, ty_dl, o_ixT, o_ixL, o_itT, o_itL, o_unT, o_unL, o_seqT, o_seqL, o_lstD, o_snoc, o_mkL, o_mkT, o_rev, o_slL, o_slT, isN_non, isN_int, isN_bl, isN_str, isN_tup, isN_lst, o_augA, o_augS, o_sum, o_maxL, o_all]
          rfl) m (.int ((q : Int) * 900)) fuelN ⟨q, rfl⟩ ?_ ?_ (by omega)]
  · rw [step_rep]
    unfold x_next_striking_1
    congr 2
    omega
  · rw [step_rep]
    dsimp only
    have : (((q : Int) * 900 + 900 * (m : Int)) / 900).toNat = q + m := by omega
    rw [this]
    exact decide_eq_false (by omega)
  · intro i hi
    rw [step_rep]
    dsimp only
    have : (((q : Int) * 900 + 900 * (i : Int)) / 900).toNat = q + i := by omega
    rw [this]
    have := l i hi
    have := G_nn r v (q + i)
    exact decide_eq_true (by omega)
/-! ### wheels, hours -/
theorem lt24 {k : Nat} (hk : k < 24) : k = 0 ∨ k = 1 ∨ k = 2 ∨ k = 3 ∨ k = 4 ∨ k = 5 ∨ k = 6 ∨ k = 7 ∨ k = 8 ∨ k = 9 ∨ k = 10 ∨ k = 11 ∨ k = 12 ∨ k = 13 ∨ k = 14 ∨ k = 15 ∨ k = 16 ∨ k = 17 ∨ k = 18 ∨ k = 19 ∨ k = 20 ∨ k = 21 ∨ k = 22 ∨ k = 23 := by omega
theorem lhour12 {k : Nat} (hk : k < 24) : x__law_hour (.int 12) (.int (k : Int)) = ret (.int (hs 12 (k : Int))) := by
  rcases lt24 hk with rfl | rfl | rfl | rfl | rfl | rfl | rfl | rfl | rfl | rfl | rfl | rfl | rfl | rfl | rfl | rfl | rfl | rfl | rfl | rfl | rfl | rfl | rfl | rfl <;> kernel_rfl
theorem lhour24 {k : Nat} (hk : k < 24) : x__law_hour (.int 24) (.int (k : Int)) = ret (.int (hs 24 (k : Int))) := by
  rcases lt24 hk with rfl | rfl | rfl | rfl | rfl | rfl | rfl | rfl | rfl | rfl | rfl | rfl | rfl | rfl | rfl | rfl | rfl | rfl | rfl | rfl | rfl | rfl | rfl | rfl <;> kernel_rfl
theorem lhour_ok {h a b c : Int} (r : Rl h a b c) {k : Nat} (hk : k < 24) : x__law_hour (.int h) (.int (k : Int)) = ret (.int (hs h (k : Int))) := by
  rcases r.h with rfl | rfl
  · exact lhour12 hk
  · exact lhour24 hk
theorem wheel_ok {w t : Int} (h1 : 1 ≤ w ∧ w ≤ 12) (h2 : 0 ≤ t ∧ t ≤ 23) : x_check_wheel (.int w) (.int t) = ret .non := by
  unfold x_check_wheel
  simp only [kO_some, kO_none, sel_t, sel_f, bnd_ret, bnd_thr, bnd_bad, ret_bnd, unC_cons, unN_nil, grd_t, grd_f, Bool.not_true, Bool.not_false, Bool.or_true, Bool.or_false, Bool.true_or, Bool.false_or, Bool.true_and, Bool.false_and, Bool.and_true, Bool.and_false, decide_true, decide_false, forC_nil, forC_cons, o_add, o_sub, o_mul, o_div, o_mod, o_pow, o_addL, o_addT, o_addS, o_mulL, o_neg, o_not, o_blD, o_asI, o_truB, o_truI, o_lt, o_le, o_gt, o_ge, o_eqI, o_neI, o_is, o_isnot, o_neB, o_eqB, o_lenT, o_lenL, o_lenS, o_abs, o_max, o_min, o_int, o_intB, o_lstL, o_lstT, o_tupL, o_tupT, o_isiN, o_isiB, o_isiI, o_isiS, o_isiT, o_isiL, ty_bb, ty_bi, ty_bs, ty_bt, ty_bl, ty_ib, ty_ii, ty_is, ty_it, ty_il, ty_sb, ty_si, ty_ss, ty_st, ty_sl, ty_tb, ty_ti, ty_ts, ty_tt, ty_tl, ty_lb, ty_li, ty_ls, ty_lt, ty_ll, ty_db, ty_di, ty_ds, ty_dt, ty_dl, o_ixT, o_ixL, o_itT, o_itL, o_unT, o_unL, o_seqT, o_seqL, o_lstD, o_snoc, o_mkL, o_mkT, o_rev, o_slL, o_slT, isN_non, isN_int, isN_bl, isN_str, isN_tup, isN_lst, o_augA, o_augS, o_sum, o_maxL, o_all, within_t h1, within_t (show (0 : Int) ≤ t ∧ t ≤ 24 - 1 by omega), check_t]
theorem off_ok {w t : Int} (h1 : 1 ≤ w ∧ w ≤ 12) (h2 : 0 ≤ t ∧ t ≤ 23) : x_off_by (.int w) (.int t) = ret (.int ((w - hs 12 t) % 12)) := by
  unfold x_off_by
  simp only [kO_some, kO_none, sel_t, sel_f, bnd_ret, bnd_thr, bnd_bad, ret_bnd, unC_cons, unN_nil, grd_t, grd_f, Bool.not_true, Bool.not_false, Bool.or_true, Bool.or_false, Bool.true_or, Bool.false_or, Bool.true_and, Bool.false_and, Bool.and_true, Bool.and_false, decide_true, decide_false, forC_nil, forC_cons, o_add, o_sub, o_mul, o_div, o_mod, o_pow, o_addL, o_addT, o_addS, o_mulL, o_neg, o_not, o_blD, o_asI, o_truB, o_truI, o_lt, o_le, o_gt, o_ge, o_eqI, o_neI, o_is, o_isnot, o_neB, o_eqB, o_lenT, o_lenL, o_lenS, o_abs, o_max, o_min, o_int, o_intB, o_lstL, o_lstT, o_tupL, o_tupT, o_isiN, o_isiB, o_isiI, o_isiS, o_isiT, o_isiL, ty_bb, ty_bi, ty_bs, ty_bt, ty_bl, ty_ib, ty_ii, ty_is, ty_it, ty_il, ty_sb, ty_si, ty_ss, ty_st, ty_sl, ty_tb, ty_ti, ty_ts, ty_tt, ty_tl, ty_lb, ty_li, ty_ls, ty_lt, ty_ll, ty_db, ty_di, ty_ds, ty_dt, ty_dl, o_ixT, o_ixL, o_itT, o_itL, o_unT, o_unL, o_seqT, o_seqL, o_lstD, o_snoc, o_mkL, o_mkT, o_rev, o_slL, o_slT, isN_non, isN_int, isN_bl, isN_str, isN_tup, isN_lst, o_augA, o_augS, o_sum, o_maxL, o_all, wheel_ok h1 h2, hour_strokes_ok (show (0 : Int) < 12 by omega), p12]
theorem set_ok {w t : Int} (h1 : 1 ≤ w ∧ w ≤ 12) (h2 : 0 ≤ t ∧ t ≤ 23) : x_strikes_to_set (.int w) (.int t) = ret (.int ((hs 12 t - w) % 12)) := by
  unfold x_strikes_to_set
  simp only [kO_some, kO_none, sel_t, sel_f, bnd_ret, bnd_thr, bnd_bad, ret_bnd, unC_cons, unN_nil, grd_t, grd_f, Bool.not_true, Bool.not_false, Bool.or_true, Bool.or_false, Bool.true_or, Bool.false_or, Bool.true_and, Bool.false_and, Bool.and_true, Bool.and_false, decide_true, decide_false, forC_nil, forC_cons, o_add, o_sub, o_mul, o_div, o_mod, o_pow, o_addL, o_addT, o_addS, o_mulL, o_neg, o_not, o_blD, o_asI, o_truB, o_truI, o_lt, o_le, o_gt, o_ge, o_eqI, o_neI, o_is, o_isnot, o_neB, o_eqB, o_lenT, o_lenL, o_lenS, o_abs, o_max, o_min, o_int, o_intB, o_lstL, o_lstT, o_tupL, o_tupT, o_isiN, o_isiB, o_isiI, o_isiS, o_isiT, o_isiL, ty_bb, ty_bi, ty_bs, ty_bt, ty_bl, ty_ib, ty_ii, ty_is, ty_it, ty_il, ty_sb, ty_si, ty_ss, ty_st, ty_sl, ty_tb, ty_ti, ty_ts, ty_tt, ty_tl, ty_lb, ty_li, ty_ls, ty_lt, ty_ll, ty_db, ty_di, ty_ds, ty_dt, ty_dl, o_ixT, o_ixL, o_itT, o_itL, o_unT, o_unL, o_seqT, o_seqL, o_lstD, o_snoc, o_mkL, o_mkT, o_rev, o_slL, o_slT, isN_non, isN_int, isN_bl, isN_str, isN_tup, isN_lst, o_augA, o_augS, o_sum, o_maxL, o_all, wheel_ok h1 h2, hour_strokes_ok (show (0 : Int) < 12 by omega), p12]
/-! ### silences -/
def st (h a b c : Int) (v : Bool) : List Nat := (List.range 96).filter fun k => decide (0 < G h a b c v k)
def gaps (T : List Int) (t0 : Int) : List Int := (T.zip (T.drop 1 ++ [t0 + 96])).map fun p => p.2 - p.1
theorem zipL_int : ∀ xs ys : List Int, zipL (xs.map .int) (ys.map .int) = (xs.zip ys).map fun p => .tup [.int p.1, .int p.2]
  | [], ys => by cases ys <;> rfl
  | x :: xs, [] => rfl
  | x :: xs, y :: ys => by
    show D.tup [.int x, .int y] :: zipL (xs.map .int) (ys.map .int) = _
    rw [zipL_int xs ys]
    rfl
theorem maxI_mul : ∀ (l : List Int) (i : Int), (l.map (900 * ·)).foldl max (900 * i) = 900 * l.foldl max i
  | [], i => rfl
  | x :: l, i => by
    show (l.map (900 * ·)).foldl max (max (900 * i) (900 * x)) = 900 * l.foldl max (max i x)
    rw [← maxI_mul l (max i x)]
    congr 1
    omega
theorem st_cons {h a b c : Int} (r : Rl h a b c) (v : Bool) : ∃ t, st h a b c v = 0 :: t := by
  have : 0 < G h a b c v 0 := G_hour r v 0
  unfold st
  rw [show List.range 96 = 0 :: (List.range 95).map (· + 1) from by decide, List.filter_cons, decide_eq_true this, if_pos rfl]
  exact ⟨_, rfl⟩
theorem silence_ok {h a b c : Int} (r : Rl h a b c) (v : Bool) {M : Int} (hM : maxI (gaps ((st h a b c v).map fun (k : Nat) => (k : Int)) 0) = some M) : x_longest_silence (R h a b c v) = ret (.int (900 * M)) := by
  obtain ⟨t, ht⟩ := st_cons r v
  have hlen : (st h a b c v).length ≤ 96 := by
    unfold st
    exact Nat.le_trans (List.length_filter_le _ _) (by rw [List.length_range]; omega)
  have e1 : lcM (fun d3 => bnd (x_strokes_by (R h a b c v) d3) fun t4 => kO (cmpD .gt t4 (D.int 0)) fun t5 => sel t5 (ret (some d3)) (ret none)) ((List.range 96).map fun (k : Nat) => D.int (900 * (k : Int))) = ret (.lst ((((st h a b c v).map fun (k : Nat) => (k : Int)).map (900 * ·)).map .int)) := by
    rw [lcM_filT (fun k => decide (0 < G h a b c v k)) (fun (k : Nat) => .int (900 * (k : Int))) fun k _ => by
      rw [strokes_by_ok v r.pos, bnd_ret, o_gt, kO_some]
      show sel (decide (0 < G h a b c v k)) _ _ = _
      cases decide (0 < G h a b c v k) <;> rfl]
    rw [List.map_map, List.map_map]
    rfl
  have e2 : ∀ T : List Int, lcM (fun d15 => kO (unD d15) fun l16 => unC l16 fun before17 l18 => unC l18 fun after19 l20 => unN l20 (kO (binD .sub after19 before17) fun t21 => ret (some t21))) (zipL ((T.map (900 * ·)).map .int) (((T.drop 1 ++ [0 + 96]).map (900 * ·)).map .int)) = ret (.lst (((gaps T 0).map (900 * ·)).map .int)) := fun T => by
    rw [zipL_int, List.zip_map]
    rw [List.map_map, lcM_mapT (fun (p : Int × Int) => .int (900 * (p.2 - p.1))) fun p _ => by
      simp only [kO_some, kO_none, sel_t, sel_f, bnd_ret, bnd_thr, bnd_bad, ret_bnd, unC_cons, unN_nil, grd_t, grd_f, Bool.not_true, Bool.not_false, Bool.or_true, Bool.or_false, Bool.true_or, Bool.false_or, Bool.true_and, Bool.false_and, Bool.and_true, Bool.and_false, decide_true, decide_false, forC_nil, forC_cons, o_add, o_sub, o_mul, o_div, o_mod, o_pow, o_addL, o_addT, o_addS, o_mulL, o_neg, o_not, o_blD, o_asI, o_truB, o_truI, o_lt, o_le, o_gt, o_ge, o_eqI, o_neI, o_is, o_isnot, o_neB, o_eqB, o_lenT, o_lenL, o_lenS, o_abs, o_max, o_min, o_int, o_intB, o_lstL, o_lstT, o_tupL, o_tupT, o_isiN, o_isiB, o_isiI, o_isiS, o_isiT, o_isiL, ty_bb, ty_bi, ty_bs, ty_bt, ty_bl, ty_ib, ty_ii, ty_is, ty_it, ty_il, ty_sb, ty_si, ty_ss, ty_st, ty_sl, ty_tb, ty_ti, ty_ts, ty_tt, ty_tl, ty_lb, ty_li, ty_ls, ty_lt, ty_ll, ty_db, ty_di, ty_ds, ty_dt, ty_dl, o_ixT, o_ixL, o_itT, o_itL, o_unT, o_unL, o_seqT, o_seqL, o_lstD, o_snoc, o_mkL, o_mkT, o_rev, o_slL, o_slT, isN_non, isN_int, isN_bl, isN_str, isN_tup, isN_lst, o_augA, o_augS, o_sum, o_maxL, o_all, Function.comp]
      show ret (some (D.int (900 * p.2 - 900 * p.1))) = _
      rw [Int.mul_sub]]
    unfold gaps
    rw [List.map_map, List.map_map]
    rfl
  generalize hT : ((st h a b c v).map fun (k : Nat) => (k : Int)) = T at *
  have hT0 : ∃ T', T = 0 :: T' := ⟨_, by rw [← hT, ht]; rfl⟩
  obtain ⟨T', rfl⟩ := hT0
  have hl2 : T'.length ≤ 96 := by
    have : (0 :: T').length = (st h a b c v).length := by rw [← hT, List.length_map]
    simp at this
    omega
  unfold x_longest_silence
  simp only [kO_some, kO_none, sel_t, sel_f, bnd_ret, bnd_thr, bnd_bad, ret_bnd, unC_cons, unN_nil, grd_t, grd_f, Bool.not_true, Bool.not_false, Bool.or_true, Bool.or_false, Bool.true_or, Bool.false_or, Bool.true_and, Bool.false_and, Bool.and_true, Bool.and_false, decide_true, decide_false, forC_nil, forC_cons, o_add, o_sub, o_mul, o_div, o_mod, o_pow, o_addL, o_addT, o_addS, o_mulL, o_neg, o_not, o_blD, o_asI, o_truB, o_truI, o_lt, o_le, o_gt, o_ge, o_eqI, o_neI, o_is, o_isnot, o_neB, o_eqB, o_lenT, o_lenL, o_lenS, o_abs, o_max, o_min, o_int, o_intB, o_lstL, o_lstT, o_tupL, o_tupT, o_isiN, o_isiB, o_isiI, o_isiS, o_isiT, o_isiL, ty_bb, ty_bi, ty_bs, ty_bt, ty_bl, ty_ib, ty_ii, ty_is, ty_it, ty_il, ty_sb, ty_si, ty_ss, ty_st, ty_sl, ty_tb, ty_ti, ty_ts, ty_tt, ty_tl, ty_lb, ty_li, ty_ls, ty_lt, ty_ll, ty_db, ty_di, ty_ds, ty_dt, ty_dl, o_ixT, o_ixL, o_itT, o_itL, o_unT, o_unL, o_seqT, o_seqL, o_lstD, o_snoc, o_mkL, o_mkT, o_rev, o_slL, o_slT, isN_non, isN_int, isN_bl, isN_str, isN_tup, isN_lst, o_augA, o_augS, o_sum, o_maxL, o_all, check_ok r v, rng900 96 (show (0 : Int) ≤ 86400 by omega) (by omega) (by omega), e1]
  rw [show cut (((0 :: T').map (900 * ·)).map D.int) (some 1) none = ((T'.map (900 * ·)).map .int) from cut_drop _ 1]
  simp only [kO_some, kO_none, sel_t, sel_f, bnd_ret, bnd_thr, bnd_bad, ret_bnd, unC_cons, unN_nil, grd_t, grd_f, Bool.not_true, Bool.not_false, Bool.or_true, Bool.or_false, Bool.true_or, Bool.false_or, Bool.true_and, Bool.false_and, Bool.and_true, Bool.and_false, decide_true, decide_false, forC_nil, forC_cons, o_add, o_sub, o_mul, o_div, o_mod, o_pow, o_addL, o_addT, o_addS, o_mulL, o_neg, o_not, o_blD, o_asI, o_truB, o_truI, o_lt, o_le, o_gt, o_ge, o_eqI, o_neI, o_is, o_isnot, o_neB, o_eqB, o_lenT, o_lenL, o_lenS, o_abs, o_max, o_min, o_int, o_intB, o_lstL, o_lstT, o_tupL, o_tupT, o_isiN, o_isiB, o_isiI, o_isiS, o_isiT, o_isiL, ty_bb, ty_bi, ty_bs, ty_bt, ty_bl, ty_ib, ty_ii, ty_is, ty_it, ty_il, ty_sb, ty_si, ty_ss, ty_st, ty_sl, ty_tb, ty_ti, ty_ts, ty_tt, ty_tl, ty_lb, ty_li, ty_ls, ty_lt, ty_ll, ty_db, ty_di, ty_ds, ty_dt, ty_dl, o_ixT, o_ixL, o_itT, o_itL, o_unT, o_unL, o_seqT, o_seqL, o_lstD, o_snoc, o_mkL, o_mkT, o_rev, o_slL, o_slT, isN_non, isN_int, isN_bl, isN_str, isN_tup, isN_lst, o_augA, o_augS, o_sum, o_maxL, o_all, List.map_cons, at0]
  have e3 : (T'.map (900 * ·)).map D.int ++ [D.int (900 * 0 + 86400)] = (((0 :: T').drop 1 ++ [0 + 96]).map (900 * ·)).map .int := by
    simp
  rw [e3, sz_ok (by simp; omega)]
  have e4 := e2 (0 :: T')
  simp only [kO_some, kO_none, sel_t, sel_f, bnd_ret, bnd_thr, bnd_bad, ret_bnd, unC_cons, unN_nil, grd_t, grd_f, Bool.not_true, Bool.not_false, Bool.or_true, Bool.or_false, Bool.true_or, Bool.false_or, Bool.true_and, Bool.false_and, Bool.and_true, Bool.and_false, decide_true, decide_false, forC_nil, forC_cons, o_add, o_sub, o_mul, o_div, o_mod, o_pow, o_addL, o_addT, o_addS, o_mulL, o_neg, o_not, o_blD, o_asI, o_truB, o_truI, o_lt, o_le, o_gt, o_ge, o_eqI, o_neI, o_is, o_isnot, o_neB, o_eqB, o_lenT, o_lenL, o_lenS, o_abs, o_max, o_min, o_int, o_intB, o_lstL, o_lstT, o_tupL, o_tupT, o_isiN, o_isiB, o_isiI, o_isiS, o_isiT, o_isiL, ty_bb, ty_bi, ty_bs, ty_bt, ty_bl, ty_ib, ty_ii, ty_is, ty_it, ty_il, ty_sb, ty_si, ty_ss, ty_st, ty_sl, ty_tb, ty_ti, ty_ts, ty_tt, ty_tl, ty_lb, ty_li, ty_ls, ty_lt, ty_ll, ty_db, ty_di, ty_ds, ty_dt, ty_dl, o_ixT, o_ixL, o_itT, o_itL, o_unT, o_unL, o_seqT, o_seqL, o_lstD, o_snoc, o_mkL, o_mkT, o_rev, o_slL, o_slT, isN_non, isN_int, isN_bl, isN_str, isN_tup, isN_lst, o_augA, o_augS, o_sum, o_maxL, o_all, List.map_cons] at e4 ⊢
  rw [e4]
  simp only [kO_some, kO_none, sel_t, sel_f, bnd_ret, bnd_thr, bnd_bad, ret_bnd, unC_cons, unN_nil, grd_t, grd_f, Bool.not_true, Bool.not_false, Bool.or_true, Bool.or_false, Bool.true_or, Bool.false_or, Bool.true_and, Bool.false_and, Bool.and_true, Bool.and_false, decide_true, decide_false, forC_nil, forC_cons, o_add, o_sub, o_mul, o_div, o_mod, o_pow, o_addL, o_addT, o_addS, o_mulL, o_neg, o_not, o_blD, o_asI, o_truB, o_truI, o_lt, o_le, o_gt, o_ge, o_eqI, o_neI, o_is, o_isnot, o_neB, o_eqB, o_lenT, o_lenL, o_lenS, o_abs, o_max, o_min, o_int, o_intB, o_lstL, o_lstT, o_tupL, o_tupT, o_isiN, o_isiB, o_isiI, o_isiS, o_isiT, o_isiL, ty_bb, ty_bi, ty_bs, ty_bt, ty_bl, ty_ib, ty_ii, ty_is, ty_it, ty_il, ty_sb, ty_si, ty_ss, ty_st, ty_sl, ty_tb, ty_ti, ty_ts, ty_tt, ty_tl, ty_lb, ty_li, ty_ls, ty_lt, ty_ll, ty_db, ty_di, ty_ds, ty_dt, ty_dl, o_ixT, o_ixL, o_itT, o_itL, o_unT, o_unL, o_seqT, o_seqL, o_lstD, o_snoc, o_mkL, o_mkT, o_rev, o_slL, o_slT, isN_non, isN_int, isN_bl, isN_str, isN_tup, isN_lst, o_augA, o_augS, o_sum, o_maxL, o_all]
  have e5 : maxI ((gaps (0 :: T') 0).map (900 * ·)) = some (900 * M) := by
    cases hg : gaps (0 :: T') 0 with
    | nil => rw [hg] at hM; cases hM
    | cons g gs =>
      rw [hg] at hM
      cases hM
      show some ((gs.map (900 * ·)).foldl max (900 * g)) = _
      rw [maxI_mul]
  rw [e5]
  rfl
/-! ### told -/
noncomputable def tol (j : Nat) (m : M D) : M D := hd (tryM (pr.at (j + 10)) "TuneError" "_law_flags" (bnd m fun t => ret (.rt t))) (fun _ => ret D.non) (fun _ => bad) (fun _ => bad) ret
theorem tol_ret (j : Nat) {m : M D} {d : D} (h : m = ret d) : tol j m = ret d := by
  rw [h]
  rfl
theorem tol_thr (j : Nat) {m : M D} (h : m = thr ⟨"NotRight", none⟩) : tol j m = ret FL := by
  rw [h]
  exact hd_nr (j + 9) _ _ _
theorem told0 (j : Nat) (x y z : D) : x__law_told (j + 10) (.int 0) x y z = tol j (x_is_striking x) := by
  unfold x__law_told tol
  simp only [kO_some, kO_none, sel_t, sel_f, bnd_ret, bnd_thr, bnd_bad, ret_bnd, unC_cons, unN_nil, grd_t, grd_f, Bool.not_true, Bool.not_false, Bool.or_true, Bool.or_false, Bool.true_or, Bool.false_or, Bool.true_and, Bool.false_and, Bool.and_true, Bool.and_false, decide_true, decide_false, forC_nil, forC_cons, o_add, o_sub, o_mul, o_div, o_mod, o_pow, o_addL, o_addT, o_addS, o_mulL, o_neg, o_not, o_blD, o_asI, o_truB, o_truI, o_lt, o_le, o_gt, o_ge, o_eqI, o_neI, o_is, o_isnot, o_neB, o_eqB, o_lenT, o_lenL, o_lenS, o_abs, o_max, o_min, o_int, o_intB, o_lstL, o_lstT, o_tupL, o_tupT, o_isiN, o_isiB, o_isiI, o_isiS, o_isiT, o_isiL, ty_bb, ty_bi, ty_bs, ty_bt, ty_bl, ty_ib, ty_ii, ty_is, ty_it, ty_il, ty_sb, ty_si, ty_ss, ty_st, ty_sl, ty_tb, ty_ti, ty_ts, ty_tt, ty_tl, ty_lb, ty_li, ty_ls, ty_lt, ty_ll, ty_db, ty_di, ty_ds, ty_dt, ty_dl, o_ixT, o_ixL, o_itT, o_itL, o_unT, o_unL, o_seqT, o_seqL, o_lstD, o_snoc, o_mkL, o_mkT, o_rev, o_slL, o_slT, isN_non, isN_int, isN_bl, isN_str, isN_tup, isN_lst, o_augA, o_augS, o_sum, o_maxL, o_all, at0, v_is_striking (j + 10) (by omega)]
  rfl
theorem told1 (j : Nat) (x y z : D) : x__law_told (j + 10) (.int 1) x y z = tol j (x_strokes_a_day x) := by
  unfold x__law_told tol
  simp only [kO_some, kO_none, sel_t, sel_f, bnd_ret, bnd_thr, bnd_bad, ret_bnd, unC_cons, unN_nil, grd_t, grd_f, Bool.not_true, Bool.not_false, Bool.or_true, Bool.or_false, Bool.true_or, Bool.false_or, Bool.true_and, Bool.false_and, Bool.and_true, Bool.and_false, decide_true, decide_false, forC_nil, forC_cons, o_add, o_sub, o_mul, o_div, o_mod, o_pow, o_addL, o_addT, o_addS, o_mulL, o_neg, o_not, o_blD, o_asI, o_truB, o_truI, o_lt, o_le, o_gt, o_ge, o_eqI, o_neI, o_is, o_isnot, o_neB, o_eqB, o_lenT, o_lenL, o_lenS, o_abs, o_max, o_min, o_int, o_intB, o_lstL, o_lstT, o_tupL, o_tupT, o_isiN, o_isiB, o_isiI, o_isiS, o_isiT, o_isiL, ty_bb, ty_bi, ty_bs, ty_bt, ty_bl, ty_ib, ty_ii, ty_is, ty_it, ty_il, ty_sb, ty_si, ty_ss, ty_st, ty_sl, ty_tb, ty_ti, ty_ts, ty_tt, ty_tl, ty_lb, ty_li, ty_ls, ty_lt, ty_ll, ty_db, ty_di, ty_ds, ty_dt, ty_dl, o_ixT, o_ixL, o_itT, o_itL, o_unT, o_unL, o_seqT, o_seqL, o_lstD, o_snoc, o_mkL, o_mkT, o_rev, o_slL, o_slT, isN_non, isN_int, isN_bl, isN_str, isN_tup, isN_lst, o_augA, o_augS, o_sum, o_maxL, o_all, at1, v_strokes_a_day (j + 10) (by omega)]
  rfl
theorem told2 (j : Nat) (x y z : D) : x__law_told (j + 10) (.int 2) x y z = tol j (x_longest_silence x) := by
  unfold x__law_told tol
  simp only [kO_some, kO_none, sel_t, sel_f, bnd_ret, bnd_thr, bnd_bad, ret_bnd, unC_cons, unN_nil, grd_t, grd_f, Bool.not_true, Bool.not_false, Bool.or_true, Bool.or_false, Bool.true_or, Bool.false_or, Bool.true_and, Bool.false_and, Bool.and_true, Bool.and_false, decide_true, decide_false, forC_nil, forC_cons, o_add, o_sub, o_mul, o_div, o_mod, o_pow, o_addL, o_addT, o_addS, o_mulL, o_neg, o_not, o_blD, o_asI, o_truB, o_truI, o_lt, o_le, o_gt, o_ge, o_eqI, o_neI, o_is, o_isnot, o_neB, o_eqB, o_lenT, o_lenL, o_lenS, o_abs, o_max, o_min, o_int, o_intB, o_lstL, o_lstT, o_tupL, o_tupT, o_isiN, o_isiB, o_isiI, o_isiS, o_isiT, o_isiL, ty_bb, ty_bi, ty_bs, ty_bt, ty_bl, ty_ib, ty_ii, ty_is, ty_it, ty_il, ty_sb, ty_si, ty_ss, ty_st, ty_sl, ty_tb, ty_ti, ty_ts, ty_tt, ty_tl, ty_lb, ty_li, ty_ls, ty_lt, ty_ll, ty_db, ty_di, ty_ds, ty_dt, ty_dl, o_ixT, o_ixL, o_itT, o_itL, o_unT, o_unL, o_seqT, o_seqL, o_lstD, o_snoc, o_mkL, o_mkT, o_rev, o_slL, o_slT, isN_non, isN_int, isN_bl, isN_str, isN_tup, isN_lst, o_augA, o_augS, o_sum, o_maxL, o_all, at2, v_longest_silence (j + 10) (by omega)]
  rfl
theorem told3 (j : Nat) (x y z : D) : x__law_told (j + 10) (.int 3) x y z = tol j (x_strokes_at x y) := by
  unfold x__law_told tol
  simp only [kO_some, kO_none, sel_t, sel_f, bnd_ret, bnd_thr, bnd_bad, ret_bnd, unC_cons, unN_nil, grd_t, grd_f, Bool.not_true, Bool.not_false, Bool.or_true, Bool.or_false, Bool.true_or, Bool.false_or, Bool.true_and, Bool.false_and, Bool.and_true, Bool.and_false, decide_true, decide_false, forC_nil, forC_cons, o_add, o_sub, o_mul, o_div, o_mod, o_pow, o_addL, o_addT, o_addS, o_mulL, o_neg, o_not, o_blD, o_asI, o_truB, o_truI, o_lt, o_le, o_gt, o_ge, o_eqI, o_neI, o_is, o_isnot, o_neB, o_eqB, o_lenT, o_lenL, o_lenS, o_abs, o_max, o_min, o_int, o_intB, o_lstL, o_lstT, o_tupL, o_tupT, o_isiN, o_isiB, o_isiI, o_isiS, o_isiT, o_isiL, ty_bb, ty_bi, ty_bs, ty_bt, ty_bl, ty_ib, ty_ii, ty_is, ty_it, ty_il, ty_sb, ty_si, ty_ss, ty_st, ty_sl, ty_tb, ty_ti, ty_ts, ty_tt, ty_tl, ty_lb, ty_li, ty_ls, ty_lt, ty_ll, ty_db, ty_di, ty_ds, ty_dt, ty_dl, o_ixT, o_ixL, o_itT, o_itL, o_unT, o_unL, o_seqT, o_seqL, o_lstD, o_snoc, o_mkL, o_mkT, o_rev, o_slL, o_slT, isN_non, isN_int, isN_bl, isN_str, isN_tup, isN_lst, o_augA, o_augS, o_sum, o_maxL, o_all, at0, show (3 : Int) - 3 = 0 by omega, v_strokes_at (j + 10) (by omega)]
  rfl
theorem told4 (j : Nat) (x y z : D) : x__law_told (j + 10) (.int 4) x y z = tol j (x_next_striking x y) := by
  unfold x__law_told tol
  simp only [kO_some, kO_none, sel_t, sel_f, bnd_ret, bnd_thr, bnd_bad, ret_bnd, unC_cons, unN_nil, grd_t, grd_f, Bool.not_true, Bool.not_false, Bool.or_true, Bool.or_false, Bool.true_or, Bool.false_or, Bool.true_and, Bool.false_and, Bool.and_true, Bool.and_false, decide_true, decide_false, forC_nil, forC_cons, o_add, o_sub, o_mul, o_div, o_mod, o_pow, o_addL, o_addT, o_addS, o_mulL, o_neg, o_not, o_blD, o_asI, o_truB, o_truI, o_lt, o_le, o_gt, o_ge, o_eqI, o_neI, o_is, o_isnot, o_neB, o_eqB, o_lenT, o_lenL, o_lenS, o_abs, o_max, o_min, o_int, o_intB, o_lstL, o_lstT, o_tupL, o_tupT, o_isiN, o_isiB, o_isiI, o_isiS, o_isiT, o_isiL, ty_bb, ty_bi, ty_bs, ty_bt, ty_bl, ty_ib, ty_ii, ty_is, ty_it, ty_il, ty_sb, ty_si, ty_ss, ty_st, ty_sl, ty_tb, ty_ti, ty_ts, ty_tt, ty_tl, ty_lb, ty_li, ty_ls, ty_lt, ty_ll, ty_db, ty_di, ty_ds, ty_dt, ty_dl, o_ixT, o_ixL, o_itT, o_itL, o_unT, o_unL, o_seqT, o_seqL, o_lstD, o_snoc, o_mkL, o_mkT, o_rev, o_slL, o_slT, isN_non, isN_int, isN_bl, isN_str, isN_tup, isN_lst, o_augA, o_augS, o_sum, o_maxL, o_all, at1, show (4 : Int) - 3 = 1 by omega, v_next_striking (j + 10) (by omega)]
  rfl
theorem told5 (j : Nat) (x y z : D) : x__law_told (j + 10) (.int 5) x y z = tol j (x_is_striking_now x y) := by
  unfold x__law_told tol
  simp only [kO_some, kO_none, sel_t, sel_f, bnd_ret, bnd_thr, bnd_bad, ret_bnd, unC_cons, unN_nil, grd_t, grd_f, Bool.not_true, Bool.not_false, Bool.or_true, Bool.or_false, Bool.true_or, Bool.false_or, Bool.true_and, Bool.false_and, Bool.and_true, Bool.and_false, decide_true, decide_false, forC_nil, forC_cons, o_add, o_sub, o_mul, o_div, o_mod, o_pow, o_addL, o_addT, o_addS, o_mulL, o_neg, o_not, o_blD, o_asI, o_truB, o_truI, o_lt, o_le, o_gt, o_ge, o_eqI, o_neI, o_is, o_isnot, o_neB, o_eqB, o_lenT, o_lenL, o_lenS, o_abs, o_max, o_min, o_int, o_intB, o_lstL, o_lstT, o_tupL, o_tupT, o_isiN, o_isiB, o_isiI, o_isiS, o_isiT, o_isiL, ty_bb, ty_bi, ty_bs, ty_bt, ty_bl, ty_ib, ty_ii, ty_is, ty_it, ty_il, ty_sb, ty_si, ty_ss, ty_st, ty_sl, ty_tb, ty_ti, ty_ts, ty_tt, ty_tl, ty_lb, ty_li, ty_ls, ty_lt, ty_ll, ty_db, ty_di, ty_ds, ty_dt, ty_dl, o_ixT, o_ixL, o_itT, o_itL, o_unT, o_unL, o_seqT, o_seqL, o_lstD, o_snoc, o_mkL, o_mkT, o_rev, o_slL, o_slT, isN_non, isN_int, isN_bl, isN_str, isN_tup, isN_lst, o_augA, o_augS, o_sum, o_maxL, o_all, at2, show (5 : Int) - 3 = 2 by omega, v_is_striking_now (j + 10) (by omega)]
  rfl
theorem told6 (j : Nat) (x y z : D) : x__law_told (j + 10) (.int 6) x y z = tol j (x_hours_heard x y) := by
  unfold x__law_told tol
  simp only [kO_some, kO_none, sel_t, sel_f, bnd_ret, bnd_thr, bnd_bad, ret_bnd, unC_cons, unN_nil, grd_t, grd_f, Bool.not_true, Bool.not_false, Bool.or_true, Bool.or_false, Bool.true_or, Bool.false_or, Bool.true_and, Bool.false_and, Bool.and_true, Bool.and_false, decide_true, decide_false, forC_nil, forC_cons, o_add, o_sub, o_mul, o_div, o_mod, o_pow, o_addL, o_addT, o_addS, o_mulL, o_neg, o_not, o_blD, o_asI, o_truB, o_truI, o_lt, o_le, o_gt, o_ge, o_eqI, o_neI, o_is, o_isnot, o_neB, o_eqB, o_lenT, o_lenL, o_lenS, o_abs, o_max, o_min, o_int, o_intB, o_lstL, o_lstT, o_tupL, o_tupT, o_isiN, o_isiB, o_isiI, o_isiS, o_isiT, o_isiL, ty_bb, ty_bi, ty_bs, ty_bt, ty_bl, ty_ib, ty_ii, ty_is, ty_it, ty_il, ty_sb, ty_si, ty_ss, ty_st, ty_sl, ty_tb, ty_ti, ty_ts, ty_tt, ty_tl, ty_lb, ty_li, ty_ls, ty_lt, ty_ll, ty_db, ty_di, ty_ds, ty_dt, ty_dl, o_ixT, o_ixL, o_itT, o_itL, o_unT, o_unL, o_seqT, o_seqL, o_lstD, o_snoc, o_mkL, o_mkT, o_rev, o_slL, o_slT, isN_non, isN_int, isN_bl, isN_str, isN_tup, isN_lst, o_augA, o_augS, o_sum, o_maxL, o_all, at3, show (6 : Int) - 3 = 3 by omega, v_hours_heard (j + 10) (by omega)]
  rfl
theorem told7 (j : Nat) (x y z : D) : x__law_told (j + 10) (.int 7) x y z = tol j (x_off_by x y) := by
  unfold x__law_told tol
  simp only [kO_some, kO_none, sel_t, sel_f, bnd_ret, bnd_thr, bnd_bad, ret_bnd, unC_cons, unN_nil, grd_t, grd_f, Bool.not_true, Bool.not_false, Bool.or_true, Bool.or_false, Bool.true_or, Bool.false_or, Bool.true_and, Bool.false_and, Bool.and_true, Bool.and_false, decide_true, decide_false, forC_nil, forC_cons, o_add, o_sub, o_mul, o_div, o_mod, o_pow, o_addL, o_addT, o_addS, o_mulL, o_neg, o_not, o_blD, o_asI, o_truB, o_truI, o_lt, o_le, o_gt, o_ge, o_eqI, o_neI, o_is, o_isnot, o_neB, o_eqB, o_lenT, o_lenL, o_lenS, o_abs, o_max, o_min, o_int, o_intB, o_lstL, o_lstT, o_tupL, o_tupT, o_isiN, o_isiB, o_isiI, o_isiS, o_isiT, o_isiL, ty_bb, ty_bi, ty_bs, ty_bt, ty_bl, ty_ib, ty_ii, ty_is, ty_it, ty_il, ty_sb, ty_si, ty_ss, ty_st, ty_sl, ty_tb, ty_ti, ty_ts, ty_tt, ty_tl, ty_lb, ty_li, ty_ls, ty_lt, ty_ll, ty_db, ty_di, ty_ds, ty_dt, ty_dl, o_ixT, o_ixL, o_itT, o_itL, o_unT, o_unL, o_seqT, o_seqL, o_lstD, o_snoc, o_mkL, o_mkT, o_rev, o_slL, o_slT, isN_non, isN_int, isN_bl, isN_str, isN_tup, isN_lst, o_augA, o_augS, o_sum, o_maxL, o_all, at4, show (7 : Int) - 3 = 4 by omega, v_off_by (j + 10) (by omega)]
  rfl
theorem told8 (j : Nat) (x y z : D) : x__law_told (j + 10) (.int 8) x y z = tol j (x_strikes_to_set x y) := by
  unfold x__law_told tol
  simp only [kO_some, kO_none, sel_t, sel_f, bnd_ret, bnd_thr, bnd_bad, ret_bnd, unC_cons, unN_nil, grd_t, grd_f, Bool.not_true, Bool.not_false, Bool.or_true, Bool.or_false, Bool.true_or, Bool.false_or, Bool.true_and, Bool.false_and, Bool.and_true, Bool.and_false, decide_true, decide_false, forC_nil, forC_cons, o_add, o_sub, o_mul, o_div, o_mod, o_pow, o_addL, o_addT, o_addS, o_mulL, o_neg, o_not, o_blD, o_asI, o_truB, o_truI, o_lt, o_le, o_gt, o_ge, o_eqI, o_neI, o_is, o_isnot, o_neB, o_eqB, o_lenT, o_lenL, o_lenS, o_abs, o_max, o_min, o_int, o_intB, o_lstL, o_lstT, o_tupL, o_tupT, o_isiN, o_isiB, o_isiI, o_isiS, o_isiT, o_isiL, ty_bb, ty_bi, ty_bs, ty_bt, ty_bl, ty_ib, ty_ii, ty_is, ty_it, ty_il, ty_sb, ty_si, ty_ss, ty_st, ty_sl, ty_tb, ty_ti, ty_ts, ty_tt, ty_tl, ty_lb, ty_li, ty_ls, ty_lt, ty_ll, ty_db, ty_di, ty_ds, ty_dt, ty_dl, o_ixT, o_ixL, o_itT, o_itL, o_unT, o_unL, o_seqT, o_seqL, o_lstD, o_snoc, o_mkL, o_mkT, o_rev, o_slL, o_slT, isN_non, isN_int, isN_bl, isN_str, isN_tup, isN_lst, o_augA, o_augS, o_sum, o_maxL, o_all, at5, show (8 : Int) - 3 = 5 by omega, v_strikes_to_set (j + 10) (by omega)]
  rfl
theorem told9 (j : Nat) (x y z : D) : x__law_told (j + 10) (.int 9) x y z = tol j (x_strokes_between x y z) := by
  unfold x__law_told tol
  simp only [kO_some, kO_none, sel_t, sel_f, bnd_ret, bnd_thr, bnd_bad, ret_bnd, unC_cons, unN_nil, grd_t, grd_f, Bool.not_true, Bool.not_false, Bool.or_true, Bool.or_false, Bool.true_or, Bool.false_or, Bool.true_and, Bool.false_and, Bool.and_true, Bool.and_false, decide_true, decide_false, forC_nil, forC_cons, o_add, o_sub, o_mul, o_div, o_mod, o_pow, o_addL, o_addT, o_addS, o_mulL, o_neg, o_not, o_blD, o_asI, o_truB, o_truI, o_lt, o_le, o_gt, o_ge, o_eqI, o_neI, o_is, o_isnot, o_neB, o_eqB, o_lenT, o_lenL, o_lenS, o_abs, o_max, o_min, o_int, o_intB, o_lstL, o_lstT, o_tupL, o_tupT, o_isiN, o_isiB, o_isiI, o_isiS, o_isiT, o_isiL, ty_bb, ty_bi, ty_bs, ty_bt, ty_bl, ty_ib, ty_ii, ty_is, ty_it, ty_il, ty_sb, ty_si, ty_ss, ty_st, ty_sl, ty_tb, ty_ti, ty_ts, ty_tt, ty_tl, ty_lb, ty_li, ty_ls, ty_lt, ty_ll, ty_db, ty_di, ty_ds, ty_dt, ty_dl, o_ixT, o_ixL, o_itT, o_itL, o_unT, o_unL, o_seqT, o_seqL, o_lstD, o_snoc, o_mkL, o_mkT, o_rev, o_slL, o_slT, isN_non, isN_int, isN_bl, isN_str, isN_tup, isN_lst, o_augA, o_augS, o_sum, o_maxL, o_all]
  rfl
/-! ### a second -/
theorem day_at {h a b c : Int} (v : Bool) {k : Nat} (hk : k < 96) : L2.atI ((day h a b c v).map D.int) (k : Int) = some (.int (G h a b c v k)) := by
  rw [atI_ok _ k (by rw [List.length_map]; unfold day; rw [List.length_map, List.length_range]; exact hk)]
  unfold day
  simp
theorem second_ok (j : Nat) {h a b c : Int} (r : Rl h a b c) (v : Bool) {s : Int} (h0 : 0 ≤ s) : x__law_is_second_right (j + 11) (R h a b c v) (.int s) = ret (.bl true) := by
  obtain ⟨q, hq⟩ : ∃ q : Nat, s / 900 = (q : Int) := ⟨(s / 900).toNat, by omega⟩
  obtain ⟨u, hu⟩ : ∃ u : Nat, (s + 899) / 900 = (u : Int) := ⟨((s + 899) / 900).toNat, by omega⟩
  obtain ⟨m, hm, p, l⟩ := first_ex r v u
  have hnow : s / 900 % 96 = ((q % 96 : Nat) : Int) := by omega
  have hF : F h a b c v (s - s % 900) = G h a b c v (q % 96) := by
    rw [G_per]
    exact F_G v q _ (by omega)
  have hstep : ∃ T, lcM (fun d14 => kO (binD .add (.int (u : Int)) d14) fun t15 => kO (bltD .int [t15]) fun t16 => kO (binD .mod t16 (D.int 96)) fun t17 => kO (ixD (.lst ((day h a b c v).map .int)) t17) fun t18 => kO (cmpD .gt t18 (D.int 0)) fun t19 => sel t19 (ret (some d14)) (ret none)) ((List.range 97).map fun (k : Nat) => D.int (k : Int)) = ret (.lst (.int (m : Int) :: T)) := by
    rw [lcM_filT (fun k => decide (0 < G h a b c v (u + k))) (fun (k : Nat) => .int (k : Int)) fun k _ => by
      have e : ((u : Int) + (k : Int)) % 96 = (((u + k) % 96 : Nat) : Int) := by omega
      simp only [kO_some, kO_none, sel_t, sel_f, bnd_ret, bnd_thr, bnd_bad, ret_bnd, unC_cons, unN_nil, grd_t, grd_f, Bool.not_true, Bool.not_false, Bool.or_true, Bool.or_false, Bool.true_or, Bool.false_or, Bool.true_and, Bool.false_and, Bool.and_true, Bool.and_false, decide_true, decide_false, forC_nil, forC_cons, o_add, o_sub, o_mul, o_div, o_mod, o_pow, o_addL, o_addT, o_addS, o_mulL, o_neg, o_not, o_blD, o_asI, o_truB, o_truI, o_lt, o_le, o_gt, o_ge, o_eqI, o_neI, o_is, o_isnot, o_neB, o_eqB, o_lenT, o_lenL, o_lenS, o_abs, o_max, o_min, o_int, o_intB, o_lstL, o_lstT, o_tupL, o_tupT, o_isiN, o_isiB, o_isiI, o_isiS, o_isiT, o_isiL, ty_bb, ty_bi, ty_bs, ty_bt, ty_bl, ty_ib, ty_ii, ty_is, ty_it, ty_il, ty_sb, ty_si, ty_ss, ty_st, ty_sl, ty_tb, ty_ti, ty_ts, ty_tt, ty_tl, ty_lb, ty_li, ty_ls, ty_lt, ty_ll, ty_db, ty_di, ty_ds, ty_dt, ty_dl, o_ixT, o_ixL, o_itT, o_itL, o_unT, o_unL, o_seqT, o_seqL, o_lstD, o_snoc, o_mkL, o_mkT, o_rev, o_slL, o_slT, isN_non, isN_int, isN_bl, isN_str, isN_tup, isN_lst, o_augA, o_augS, o_sum, o_maxL, o_all, p96, e, day_at v (Nat.mod_lt _ (show 0 < 96 by omega)), G_per]
      cases decide (0 < G h a b c v (u + k)) <;> rfl]
    have key : ∃ T, (List.range 97).filter (fun k => decide (0 < G h a b c v (u + k))) = m :: T := by
      have e97 : List.range 97 = 0 :: 1 :: 2 :: 3 :: (List.range 93).map (· + 4) := by decide
      rw [e97]
      simp only [List.filter_cons]
      rcases (by omega : m = 0 ∨ m = 1 ∨ m = 2 ∨ m = 3) with rfl | rfl | rfl | rfl
      · rw [if_pos (decide_eq_true p)]; exact ⟨_, rfl⟩
      · rw [if_neg (by simpa using l 0 (by omega)), if_pos (decide_eq_true p)]; exact ⟨_, rfl⟩
      · rw [if_neg (by simpa using l 0 (by omega)), if_neg (by simpa using l 1 (by omega)), if_pos (decide_eq_true p)]; exact ⟨_, rfl⟩
      · rw [if_neg (by simpa using l 0 (by omega)), if_neg (by simpa using l 1 (by omega)), if_neg (by simpa using l 2 (by omega)), if_pos (decide_eq_true p)]; exact ⟨_, rfl⟩
    obtain ⟨T, hT⟩ := key
    exact ⟨_, by rw [hT]; rfl⟩
  obtain ⟨T, hT⟩ := hstep
  have r97 : rngD [D.int 97] = some ((List.range 97).map fun (k : Nat) => D.int (k : Int)) := rng_one (m := 97) (by omega)
  have hdue : F h a b c v s = if s % 900 = 0 then G h a b c v (q % 96) else 0 := by
    split
    · rename_i e
      rw [← hF, e, Int.sub_zero]
    · rename_i e
      unfold F
      rw [if_neg e]
  have rest : x__law_is_second_right_0 (j + 11) (R h a b c v) (.int s) (.lst ((day h a b c v).map .int)) (.int (F h a b c v s)) (.int ((q % 96 : Nat) : Int)) = ret (.bl true) := by
    unfold x__law_is_second_right_0
    simp only [kO_some, kO_none, sel_t, sel_f, bnd_ret, bnd_thr, bnd_bad, ret_bnd, unC_cons, unN_nil, grd_t, grd_f, Bool.not_true, Bool.not_false, Bool.or_true, Bool.or_false, Bool.true_or, Bool.false_or, Bool.true_and, Bool.false_and, Bool.and_true, Bool.and_false, decide_true, decide_false, forC_nil, forC_cons, o_add, o_sub, o_mul, o_div, o_mod, o_pow, o_addL, o_addT, o_addS, o_mulL, o_neg, o_not, o_blD, o_asI, o_truB, o_truI, o_lt, o_le, o_gt, o_ge, o_eqI, o_neI, o_is, o_isnot, o_neB, o_eqB, o_lenT, o_lenL, o_lenS, o_abs, o_max, o_min, o_int, o_intB, o_lstL, o_lstT, o_tupL, o_tupT, o_isiN, o_isiB, o_isiI, o_isiS, o_isiT, o_isiL, ty_bb, ty_bi, ty_bs, ty_bt, ty_bl, ty_ib, ty_ii, ty_is, ty_it, ty_il, ty_sb, ty_si, ty_ss, ty_st, ty_sl, ty_tb, ty_ti, ty_ts, ty_tt, ty_tl, ty_lb, ty_li, ty_ls, ty_lt, ty_ll, ty_db, ty_di, ty_ds, ty_dt, ty_dl, o_ixT, o_ixL, o_itT, o_itL, o_unT, o_unL, o_seqT, o_seqL, o_lstD, o_snoc, o_mkL, o_mkT, o_rev, o_slL, o_slT, isN_non, isN_int, isN_bl, isN_str, isN_tup, isN_lst, o_augA, o_augS, o_sum, o_maxL, o_all, p900, p2, day_at v (Nat.mod_lt q (show 0 < 96 by omega)), d900, r97, hu, hT, at0, show j + 11 - 1 = j + 10 from rfl, told3, told4, told5]
    rw [mul_ok' (by omega), grd_t, kO_some]
    have e1 : bnd (sel (decide (s % 900 % 2 = 0)) (kO (cmpD .lt (D.int (s % 900)) (D.int (2 * G h a b c v (q % 96)))) fun t9 => ret (D.bl t9)) (ret (D.bl false))) = fun (k : D → M D) => k (.bl (decide (s % 900 % 2 = 0) && decide (s % 900 / 2 < F h a b c v (s - s % 900)))) := by
      funext k
      rw [o_lt, kO_some, hF]
      by_cases e : s % 900 % 2 = 0
      · rw [decide_eq_true e, sel_t, bnd_ret, Bool.true_and]
        congr 2
        exact decide_eq_decide.mpr (by omega)
      · rw [decide_eq_false e, sel_f, bnd_ret, Bool.false_and]
    rw [e1]
    dsimp only
    rw [tol_ret j (at_ok r v h0), bnd_ret, tol_ret j (next_ok r v h0 hm (by rw [hu, Int.toNat_natCast]; exact p) (by rw [hu, Int.toNat_natCast]; exact l)), bnd_ret, tol_ret j (now_ok r v h0), bnd_ret, hu, mul_ok (by omega), grd_t, kO_some]
    exact same_ok 1 (j + 8) _ ⟨by simp, fun d hd => by
      simp only [List.mem_cons, List.not_mem_nil, or_false] at hd
      rcases hd with rfl | rfl | rfl <;> trivial⟩
  unfold x__law_is_second_right
  simp only [kO_some, kO_none, sel_t, sel_f, bnd_ret, bnd_thr, bnd_bad, ret_bnd, unC_cons, unN_nil, grd_t, grd_f, Bool.not_true, Bool.not_false, Bool.or_true, Bool.or_false, Bool.true_or, Bool.false_or, Bool.true_and, Bool.false_and, Bool.and_true, Bool.and_false, decide_true, decide_false, forC_nil, forC_cons, o_add, o_sub, o_mul, o_div, o_mod, o_pow, o_addL, o_addT, o_addS, o_mulL, o_neg, o_not, o_blD, o_asI, o_truB, o_truI, o_lt, o_le, o_gt, o_ge, o_eqI, o_neI, o_is, o_isnot, o_neB, o_eqB, o_lenT, o_lenL, o_lenS, o_abs, o_max, o_min, o_int, o_intB, o_lstL, o_lstT, o_tupL, o_tupT, o_isiN, o_isiB, o_isiI, o_isiS, o_isiT, o_isiL, ty_bb, ty_bi, ty_bs, ty_bt, ty_bl, ty_ib, ty_ii, ty_is, ty_it, ty_il, ty_sb, ty_si, ty_ss, ty_st, ty_sl, ty_tb, ty_ti, ty_ts, ty_tt, ty_tl, ty_lb, ty_li, ty_ls, ty_lt, ty_ll, ty_db, ty_di, ty_ds, ty_dt, ty_dl, o_ixT, o_ixL, o_itT, o_itL, o_unT, o_unL, o_seqT, o_seqL, o_lstD, o_snoc, o_mkL, o_mkT, o_rev, o_slL, o_slT, isN_non, isN_int, isN_bl, isN_str, isN_tup, isN_lst, o_augA, o_augS, o_sum, o_maxL, o_all, day_ok r v, d900, p900, p96, hnow, day_at v (Nat.mod_lt q (show 0 < 96 by omega))]
  rw [hdue] at rest
  by_cases e : s % 900 = 0
  · rw [decide_eq_true e, sel_t]
    rw [if_pos e] at rest
    exact rest
  · rw [decide_eq_false e, sel_f]
    rw [if_neg e] at rest
    exact rest
/-! ### the law -/
theorem rule_ok : Ok x__law_rule fun d => ∃ h a b c v, d = R h a b c v ∧ Rl h a b c := by
  unfold x__law_rule
  refine Ok.bnd (take_lit 9 (by omega)) fun t1 ⟨k1, e1, h1⟩ => Ok.bnd (take_lit 9 (by omega)) fun t2 ⟨k2, e2, h2⟩ => Ok.bnd (take_lit 9 (by omega)) fun t3 ⟨k3, e3, h3⟩ => Ok.bnd (take_lit 3 (by omega)) fun t4 ⟨k4, e4, h4⟩ => ?_
  subst e1 e2 e3 e4
  refine Ok.bnd (P := fun d => ∃ a b c : Int, d = .tup [.int a, .int b, .int c] ∧ (0 ≤ a ∧ a ≤ 8) ∧ (0 ≤ b ∧ b ≤ 8) ∧ (0 ≤ c ∧ c ≤ 8)) ((pick_ok (by simp)).mono fun d hd => ?_) fun d ⟨a, b, c, e, ha, hb, hc⟩ => ?_
  · simp only [List.mem_cons, List.not_mem_nil, or_false] at hd
    rcases hd with rfl | rfl | rfl | rfl
    · exact ⟨0, 0, 0, rfl, by omega, by omega, by omega⟩
    · exact ⟨1, 2, 3, rfl, by omega, by omega, by omega⟩
    · exact ⟨k1, k2, k3, rfl, by omega, by omega, by omega⟩
    · exact ⟨0, k4, 0, rfl, by omega, by omega, by omega⟩
  subst e
  refine Ok.bnd (P := fun d => ∃ h : Int, d = .int h ∧ (h = 12 ∨ h = 24)) ((pick_ok (by simp)).mono fun d hd => ?_) fun d ⟨h, e, hh⟩ => ?_
  · simp only [List.mem_cons, List.not_mem_nil, or_false] at hd
    rcases hd with rfl | rfl
    · exact ⟨12, rfl, .inl rfl⟩
    · exact ⟨24, rfl, .inr rfl⟩
  subst e
  refine Ok.bnd (take_lit 2 (by omega)) fun t7 ⟨k7, e7, h7⟩ => ?_
  subst e7
  simp only [kO_some, kO_none, sel_t, sel_f, bnd_ret, bnd_thr, bnd_bad, ret_bnd, unC_cons, unN_nil, grd_t, grd_f, Bool.not_true, Bool.not_false, Bool.or_true, Bool.or_false, Bool.true_or, Bool.false_or, Bool.true_and, Bool.false_and, Bool.and_true, Bool.and_false, decide_true, decide_false, forC_nil, forC_cons, o_add, o_sub, o_mul, o_div, o_mod, o_pow, o_addL, o_addT, o_addS, o_mulL, o_neg, o_not, o_blD, o_asI, o_truB, o_truI, o_lt, o_le, o_gt, o_ge, o_eqI, o_neI, o_is, o_isnot, o_neB, o_eqB, o_lenT, o_lenL, o_lenS, o_abs, o_max, o_min, o_int, o_intB, o_lstL, o_lstT, o_tupL, o_tupT, o_isiN, o_isiB, o_isiI, o_isiS, o_isiT, o_isiL, ty_bb, ty_bi, ty_bs, ty_bt, ty_bl, ty_ib, ty_ii, ty_is, ty_it, ty_il, ty_sb, ty_si, ty_ss, ty_st, ty_sl, ty_tb, ty_ti, ty_ts, ty_tt, ty_tl, ty_lb, ty_li, ty_ls, ty_lt, ty_ll, ty_db, ty_di, ty_ds, ty_dt, ty_dl, o_ixT, o_ixL, o_itT, o_itL, o_unT, o_unL, o_seqT, o_seqL, o_lstD, o_snoc, o_mkL, o_mkT, o_rev, o_slL, o_slT, isN_non, isN_int, isN_bl, isN_str, isN_tup, isN_lst, o_augA, o_augS, o_sum, o_maxL, o_all]
  exact Ok.ret ⟨h, a, b, c, _, rfl, hh, ha, hb, hc⟩
theorem pick_int {l : List D} (h0 : 0 < l.length) {P : Int → Prop} (h : ∀ d ∈ l, ∃ i : Int, d = .int i ∧ P i) : Ok (x__law_pick (.lst l)) fun d => ∃ i : Int, d = .int i ∧ P i := (pick_ok h0).mono h
theorem tp18 : binD .pow (.int 10) (.int 18) = some (.int 1000000000000000000) := by kernel_rfl
theorem tp12 : binD .pow (.int 10) (.int 12) = some (.int 1000000000000) := by kernel_rfl
/-- seconds -/
theorem loop1 (j : Nat) {h a b c : Int} (r : Rl h a b c) (v : Bool) (d : D) (nx bk : Unit → M D) {Q : D → Prop} (hn : Ok (nx ()) Q) : Ok (x_law_1 (j + 12) (R h a b c v) d nx bk) Q := by
  unfold x_law_1
  refine Ok.bnd (take_lit 97 (by omega)) fun t1 ⟨k1, e1, h1⟩ => Ok.bnd (take_lit 997 (by omega)) fun t2 ⟨k2, e2, h2⟩ => ?_
  subst e1 e2
  simp only [tp18, kO_some]
  refine Ok.bnd (take_lit 97 (by omega)) fun t4 ⟨k4, e4, h4⟩ => ?_
  subst e4
  simp only [kO_some, kO_none, sel_t, sel_f, bnd_ret, bnd_thr, bnd_bad, ret_bnd, unC_cons, unN_nil, grd_t, grd_f, Bool.not_true, Bool.not_false, Bool.or_true, Bool.or_false, Bool.true_or, Bool.false_or, Bool.true_and, Bool.false_and, Bool.and_true, Bool.and_false, decide_true, decide_false, forC_nil, forC_cons, o_add, o_sub, o_mul, o_div, o_mod, o_pow, o_addL, o_addT, o_addS, o_mulL, o_neg, o_not, o_blD, o_asI, o_truB, o_truI, o_lt, o_le, o_gt, o_ge, o_eqI, o_neI, o_is, o_isnot, o_neB, o_eqB, o_lenT, o_lenL, o_lenS, o_abs, o_max, o_min, o_int, o_intB, o_lstL, o_lstT, o_tupL, o_tupT, o_isiN, o_isiB, o_isiI, o_isiS, o_isiT, o_isiL, ty_bb, ty_bi, ty_bs, ty_bt, ty_bl, ty_ib, ty_ii, ty_is, ty_it, ty_il, ty_sb, ty_si, ty_ss, ty_st, ty_sl, ty_tb, ty_ti, ty_ts, ty_tt, ty_tl, ty_lb, ty_li, ty_ls, ty_lt, ty_ll, ty_db, ty_di, ty_ds, ty_dt, ty_dl, o_ixT, o_ixL, o_itT, o_itL, o_unT, o_unL, o_seqT, o_seqL, o_lstD, o_snoc, o_mkL, o_mkT, o_rev, o_slL, o_slT, isN_non, isN_int, isN_bl, isN_str, isN_tup, isN_lst, o_augA, o_augS, o_sum, o_maxL, o_all]
  refine Ok.bnd (pick_int (by simp) (P := fun i => 0 ≤ i) fun d hd => ?_) fun q ⟨i, e, hi⟩ => ?_
  · simp only [List.mem_cons, List.not_mem_nil, or_false] at hd
    rcases hd with rfl | rfl | rfl | rfl | rfl | rfl | rfl <;> exact ⟨_, rfl, by omega⟩
  subst e
  rw [o_mul, mul_ok' (by omega), grd_t, kO_some]
  refine Ok.bnd (take_lit 900 (by omega)) fun t8 ⟨k8, e8, h8⟩ => ?_
  subst e8
  refine Ok.bnd (pick_int (by simp) (P := fun i => 0 ≤ i) fun d hd => ?_) fun q ⟨i2, e, hi2⟩ => ?_
  · simp only [List.mem_cons, List.not_mem_nil, or_false] at hd
    rcases hd with rfl | rfl | rfl | rfl | rfl | rfl | rfl | rfl | rfl | rfl <;> exact ⟨_, rfl, by omega⟩
  subst e
  rw [o_add, kO_some, show j + 12 - 1 = j + 11 from rfl, second_ok j r v (by omega)]
  simp only [kO_some, kO_none, sel_t, sel_f, bnd_ret, bnd_thr, bnd_bad, ret_bnd, unC_cons, unN_nil, grd_t, grd_f, Bool.not_true, Bool.not_false, Bool.or_true, Bool.or_false, Bool.true_or, Bool.false_or, Bool.true_and, Bool.false_and, Bool.and_true, Bool.and_false, decide_true, decide_false, forC_nil, forC_cons, o_add, o_sub, o_mul, o_div, o_mod, o_pow, o_addL, o_addT, o_addS, o_mulL, o_neg, o_not, o_blD, o_asI, o_truB, o_truI, o_lt, o_le, o_gt, o_ge, o_eqI, o_neI, o_is, o_isnot, o_neB, o_eqB, o_lenT, o_lenL, o_lenS, o_abs, o_max, o_min, o_int, o_intB, o_lstL, o_lstT, o_tupL, o_tupT, o_isiN, o_isiB, o_isiI, o_isiS, o_isiT, o_isiL, ty_bb, ty_bi, ty_bs, ty_bt, ty_bl, ty_ib, ty_ii, ty_is, ty_it, ty_il, ty_sb, ty_si, ty_ss, ty_st, ty_sl, ty_tb, ty_ti, ty_ts, ty_tt, ty_tl, ty_lb, ty_li, ty_ls, ty_lt, ty_ll, ty_db, ty_di, ty_ds, ty_dt, ty_dl, o_ixT, o_ixL, o_itT, o_itL, o_unT, o_unL, o_seqT, o_seqL, o_lstD, o_snoc, o_mkL, o_mkT, o_rev, o_slL, o_slT, isN_non, isN_int, isN_bl, isN_str, isN_tup, isN_lst, o_augA, o_augS, o_sum, o_maxL, o_all]
  exact hn
theorem loop3 (j : Nat) {h a b c : Int} (r : Rl h a b c) (v : Bool) (d : D) (nx bk : Unit → M D) {Q : D → Prop} (hn : Ok (nx ()) Q) : Ok (x_law_3 (j + 12) (R h a b c v) d nx bk) Q := by
  unfold x_law_3
  refine Ok.bnd (take_lit 65521 (by omega)) fun t1 ⟨k1, e1, h1⟩ => ?_
  subst e1
  rw [o_mul, mul_ok (by omega), grd_t, kO_some, tp12, kO_some]
  refine Ok.bnd (take_lit 65521 (by omega)) fun t4 ⟨k4, e4, h4⟩ => ?_
  subst e4
  refine Ok.bnd (pick_int (by simp) (P := fun i => 0 ≤ i ∧ i ≤ 1000000000000) fun d hd => ?_) fun q ⟨a1, e, ha1⟩ => ?_
  · simp only [List.mem_cons, List.not_mem_nil, or_false] at hd
    rcases hd with rfl | rfl | rfl | rfl | rfl | rfl | rfl | rfl <;> exact ⟨_, rfl, by omega, by omega⟩
  subst e
  rw [kO_some]
  refine Ok.bnd (take_lit 65521 (by omega)) fun t7 ⟨k7, e7, h7⟩ => ?_
  subst e7
  rw [o_mul, mul_ok (by omega), grd_t, kO_some, kO_some]
  refine Ok.bnd (pick_int (by simp) (P := fun i => 0 ≤ i) fun d hd => ?_) fun q ⟨i2, e, hi2⟩ => ?_
  · simp only [List.mem_cons, List.not_mem_nil, or_false] at hd
    rcases hd with rfl | rfl | rfl | rfl | rfl | rfl | rfl <;> exact ⟨_, rfl, by omega⟩
  subst e
  rw [o_add, kO_some, o_min, kO_some]
  obtain ⟨b1, hb1⟩ : ∃ b1 : Int, (if a1 + i2 < 1000000000000 then a1 + i2 else 1000000000000) = b1 := ⟨_, rfl⟩
  have hb2 : a1 ≤ b1 ∧ b1 ≤ 1000000000000 := by
    rw [← hb1]
    split <;> omega
  rw [hb1, show j + 12 - 1 = j + 2 + 10 - 1 from rfl, show j + 2 + 10 - 1 = j + 1 + 10 from rfl, told9, tol_ret _ (between_ok r v ha1.1 hb2.1 hb2.2), bnd_ret, lahead_ok r v (by omega) hb2.2, bnd_ret, lahead_ok r v ha1.1 ha1.2, bnd_ret, o_sub, kO_some, ahead_same v (by omega), ahead_same v ha1.1]
  show Ok (bnd (x__law_same (j + 11) (.int (SA h a b c v b1 - SA h a b c v a1)) (.int (SA h a b c v b1 - SA h a b c v a1))) _) _
  rw [same_ok 0 (j + 10) (.int (SA h a b c v b1 - SA h a b c v a1)) trivial]
  simp only [kO_some, kO_none, sel_t, sel_f, bnd_ret, bnd_thr, bnd_bad, ret_bnd, unC_cons, unN_nil, grd_t, grd_f, Bool.not_true, Bool.not_false, Bool.or_true, Bool.or_false, Bool.true_or, Bool.false_or, Bool.true_and, Bool.false_and, Bool.and_true, Bool.and_false, decide_true, decide_false, forC_nil, forC_cons, o_add, o_sub, o_mul, o_div, o_mod, o_pow, o_addL, o_addT, o_addS, o_mulL, o_neg, o_not, o_blD, o_asI, o_truB, o_truI, o_lt, o_le, o_gt, o_ge, o_eqI, o_neI, o_is, o_isnot, o_neB, o_eqB, o_lenT, o_lenL, o_lenS, o_abs, o_max, o_min, o_int, o_intB, o_lstL, o_lstT, o_tupL, o_tupT, o_isiN, o_isiB, o_isiI, o_isiS, o_isiT, o_isiL, ty_bb, ty_bi, ty_bs, ty_bt, ty_bl, ty_ib, ty_ii, ty_is, ty_it, ty_il, ty_sb, ty_si, ty_ss, ty_st, ty_sl, ty_tb, ty_ti, ty_ts, ty_tt, ty_tl, ty_lb, ty_li, ty_ls, ty_lt, ty_ll, ty_db, ty_di, ty_ds, ty_dt, ty_dl, o_ixT, o_ixL, o_itT, o_itL, o_unT, o_unL, o_seqT, o_seqL, o_lstD, o_snoc, o_mkL, o_mkT, o_rev, o_slL, o_slT, isN_non, isN_int, isN_bl, isN_str, isN_tup, isN_lst, o_augA, o_augS, o_sum, o_maxL, o_all]
  exact hn
theorem good_ints {α : Type} (f : α → Int) (l : List α) (n : Nat) (hl : l.length ≤ 10000) : Good (n + 1) (.lst (l.map fun x => .int (f x))) := ⟨by rw [List.length_map]; exact hl, fun d hd => by
  obtain ⟨x, _, rfl⟩ := List.mem_map.mp hd
  cases n <;> trivial⟩
theorem loop5 (j : Nat) {h a b c : Int} (r : Rl h a b c) (v : Bool) {n : Int} (h0 : 0 ≤ n) (nx bk : Unit → M D) {Q : D → Prop} (hn : Ok (nx ()) Q) : Ok (x_law_5 (j + 12) (R h a b c v) (.int n) nx bk) Q := by
  unfold x_law_5
  rw [show j + 12 - 1 = j + 1 + 10 from rfl, told6, tol_ret _ (heard_ok r v h0), bnd_ret, show rngD [D.int 24] = some ((List.range 24).map fun (k : Nat) => D.int (k : Int)) from rng_one (m := 24) (by omega), kO_some]
  have e1 : lcM (fun d3 => kO (ixD (R h a b c v) (D.int 0)) fun t4 => bnd (x__law_hour t4 d3) fun t5 => kO (cmpD .eq t5 (.int n)) fun t6 => sel t6 (ret (some d3)) (ret none)) ((List.range 24).map fun (k : Nat) => D.int (k : Int)) = ret (.lst (((List.range 24).filter fun (k : Nat) => decide (hs h (k : Int) = n)).map fun (k : Nat) => .int (k : Int))) := by
    refine lcM_filT _ _ fun k hk => ?_
    have hk2 : k < 24 := List.mem_range.mp hk
    unfold R
    simp only [kO_some, kO_none, sel_t, sel_f, bnd_ret, bnd_thr, bnd_bad, ret_bnd, unC_cons, unN_nil, grd_t, grd_f, Bool.not_true, Bool.not_false, Bool.or_true, Bool.or_false, Bool.true_or, Bool.false_or, Bool.true_and, Bool.false_and, Bool.and_true, Bool.and_false, decide_true, decide_false, forC_nil, forC_cons, o_add, o_sub, o_mul, o_div, o_mod, o_pow, o_addL, o_addT, o_addS, o_mulL, o_neg, o_not, o_blD, o_asI, o_truB, o_truI, o_lt, o_le, o_gt, o_ge, o_eqI, o_neI, o_is, o_isnot, o_neB, o_eqB, o_lenT, o_lenL, o_lenS, o_abs, o_max, o_min, o_int, o_intB, o_lstL, o_lstT, o_tupL, o_tupT, o_isiN, o_isiB, o_isiI, o_isiS, o_isiT, o_isiL, ty_bb, ty_bi, ty_bs, ty_bt, ty_bl, ty_ib, ty_ii, ty_is, ty_it, ty_il, ty_sb, ty_si, ty_ss, ty_st, ty_sl, ty_tb, ty_ti, ty_ts, ty_tt, ty_tl, ty_lb, ty_li, ty_ls, ty_lt, ty_ll, ty_db, ty_di, ty_ds, ty_dt, ty_dl, o_ixT, o_ixL, o_itT, o_itL, o_unT, o_unL, o_seqT, o_seqL, o_lstD, o_snoc, o_mkL, o_mkT, o_rev, o_slL, o_slT, isN_non, isN_int, isN_bl, isN_str, isN_tup, isN_lst, o_augA, o_augS, o_sum, o_maxL, o_all, at0, lhour_ok r hk2]
    cases decide (hs h (k : Int) = n) <;> rfl
  rw [e1, bnd_ret, same_ok 1 (j + 9) _ (good_ints _ _ 0 (Nat.le_trans (List.length_filter_le _ _) (by rw [List.length_range]; omega)))]
  simp only [kO_some, kO_none, sel_t, sel_f, bnd_ret, bnd_thr, bnd_bad, ret_bnd, unC_cons, unN_nil, grd_t, grd_f, Bool.not_true, Bool.not_false, Bool.or_true, Bool.or_false, Bool.true_or, Bool.false_or, Bool.true_and, Bool.false_and, Bool.and_true, Bool.and_false, decide_true, decide_false, forC_nil, forC_cons, o_add, o_sub, o_mul, o_div, o_mod, o_pow, o_addL, o_addT, o_addS, o_mulL, o_neg, o_not, o_blD, o_asI, o_truB, o_truI, o_lt, o_le, o_gt, o_ge, o_eqI, o_neI, o_is, o_isnot, o_neB, o_eqB, o_lenT, o_lenL, o_lenS, o_abs, o_max, o_min, o_int, o_intB, o_lstL, o_lstT, o_tupL, o_tupT, o_isiN, o_isiB, o_isiI, o_isiS, o_isiT, o_isiL, ty_bb, ty_bi, ty_bs, ty_bt, ty_bl, ty_ib, ty_ii, ty_is, ty_it, ty_il, ty_sb, ty_si, ty_ss, ty_st, ty_sl, ty_tb, ty_ti, ty_ts, ty_tt, ty_tl, ty_lb, ty_li, ty_ls, ty_lt, ty_ll, ty_db, ty_di, ty_ds, ty_dt, ty_dl, o_ixT, o_ixL, o_itT, o_itL, o_unT, o_unL, o_seqT, o_seqL, o_lstD, o_snoc, o_mkL, o_mkT, o_rev, o_slL, o_slT, isN_non, isN_int, isN_bl, isN_str, isN_tup, isN_lst, o_augA, o_augS, o_sum, o_maxL, o_all]
  exact hn
/-! ### what is refused -/
theorem nr_check {d : D} (h : x_is_striking d = ret (.bl false)) : x_check_striking d = thr ⟨"NotRight", none⟩ := by
  unfold x_check_striking
  simp only [kO_some, kO_none, sel_t, sel_f, bnd_ret, bnd_thr, bnd_bad, ret_bnd, unC_cons, unN_nil, grd_t, grd_f, Bool.not_true, Bool.not_false, Bool.or_true, Bool.or_false, Bool.true_or, Bool.false_or, Bool.true_and, Bool.false_and, Bool.and_true, Bool.and_false, decide_true, decide_false, forC_nil, forC_cons, o_add, o_sub, o_mul, o_div, o_mod, o_pow, o_addL, o_addT, o_addS, o_mulL, o_neg, o_not, o_blD, o_asI, o_truB, o_truI, o_lt, o_le, o_gt, o_ge, o_eqI, o_neI, o_is, o_isnot, o_neB, o_eqB, o_lenT, o_lenL, o_lenS, o_abs, o_max, o_min, o_int, o_intB, o_lstL, o_lstT, o_tupL, o_tupT, o_isiN, o_isiB, o_isiI, o_isiS, o_isiT, o_isiL, ty_bb, ty_bi, ty_bs, ty_bt, ty_bl, ty_ib, ty_ii, ty_is, ty_it, ty_il, ty_sb, ty_si, ty_ss, ty_st, ty_sl, ty_tb, ty_ti, ty_ts, ty_tt, ty_tl, ty_lb, ty_li, ty_ls, ty_lt, ty_ll, ty_db, ty_di, ty_ds, ty_dt, ty_dl, o_ixT, o_ixL, o_itT, o_itL, o_unT, o_unL, o_seqT, o_seqL, o_lstD, o_snoc, o_mkL, o_mkT, o_rev, o_slL, o_slT, isN_non, isN_int, isN_bl, isN_str, isN_tup, isN_lst, o_augA, o_augS, o_sum, o_maxL, o_all, h, check_f]
section
variable {d : D} (h : x_check_striking d = thr ⟨"NotRight", none⟩) (y z : D)
include h
theorem nr_at : x_strokes_at d y = thr ⟨"NotRight", none⟩ := by unfold x_strokes_at; rw [h, bnd_thr]
theorem nr_next : x_next_striking d y = thr ⟨"NotRight", none⟩ := by unfold x_next_striking; rw [h, bnd_thr]
theorem nr_now : x_is_striking_now d y = thr ⟨"NotRight", none⟩ := by unfold x_is_striking_now; rw [h, bnd_thr]
theorem nr_heard : x_hours_heard d y = thr ⟨"NotRight", none⟩ := by unfold x_hours_heard; rw [h, bnd_thr]
theorem nr_day : x_strokes_a_day d = thr ⟨"NotRight", none⟩ := by unfold x_strokes_a_day; rw [h, bnd_thr]
theorem nr_sil : x_longest_silence d = thr ⟨"NotRight", none⟩ := by unfold x_longest_silence; rw [h, bnd_thr]
theorem nr_btw : x_strokes_between d y z = thr ⟨"NotRight", none⟩ := by unfold x_strokes_between; rw [h, bnd_thr]
end
section
variable {h a b c : Int} (r : Rl h a b c) (v : Bool) {y : D} (hy : x_is_count y = ret (.bl false))
include r hy
theorem nc_at : x_strokes_at (R h a b c v) y = thr ⟨"NotRight", none⟩ := by unfold x_strokes_at; rw [check_ok r v, bnd_ret, hy, bnd_ret, check_f, bnd_thr]
theorem nc_next : x_next_striking (R h a b c v) y = thr ⟨"NotRight", none⟩ := by unfold x_next_striking; rw [check_ok r v, bnd_ret, hy, bnd_ret, check_f, bnd_thr]
theorem nc_now : x_is_striking_now (R h a b c v) y = thr ⟨"NotRight", none⟩ := by unfold x_is_striking_now; rw [check_ok r v, bnd_ret, hy, bnd_ret, check_f, bnd_thr]
theorem nc_heard : x_hours_heard (R h a b c v) y = thr ⟨"NotRight", none⟩ := by unfold x_hours_heard; rw [check_ok r v, bnd_ret, hy, bnd_ret, check_f, bnd_thr]
end
theorem nb_first {h a b c : Int} (r : Rl h a b c) (v : Bool) {x y : D} (hx : x_is_within x (.int 0) (.int 1000000000000) = ret (.bl false)) : x_strokes_between (R h a b c v) x y = thr ⟨"NotRight", none⟩ := by
  unfold x_strokes_between
  rw [check_ok r v, bnd_ret, hx, bnd_ret, o_blD, kO_some, sel_f, bnd_ret, check_f, bnd_thr]
theorem nb_second {h a b c : Int} (r : Rl h a b c) (v : Bool) {x y : D} (hx : x_is_within x (.int 0) (.int 1000000000000) = ret (.bl true)) (hy : x_is_within y x (.int 1000000000000) = ret (.bl false)) : x_strokes_between (R h a b c v) x y = thr ⟨"NotRight", none⟩ := by
  unfold x_strokes_between
  rw [check_ok r v, bnd_ret, hx, bnd_ret, o_blD, kO_some, sel_t, hy, bnd_ret, check_f, bnd_thr]
def bads (h a b c : Int) (v : Bool) : List D := [.non, .tup [.int h, .tup [.int a, .int b, .int c]], .lst [.int h, .tup [.int a, .int b, .int c], .bl v], .tup [.int 6, .tup [.int a, .int b, .int c], .bl v], .tup [.bl true, .tup [.int a, .int b, .int c], .bl v], .tup [.int 12, .tup [.int 1, .int 2], .bl true], .tup [.int 12, .lst [.int 1, .int 2, .int 3], .bl true], .tup [.int 12, .tup [.int 9, .int 0, .int 0], .bl true],
  .tup [.int 12, .tup [.int 0, .int (-1), .int 0], .bl true], .tup [.int 12, .tup [.int 0, .int 0, .int 0], .int 1], .tup [.int 12, .tup [.bl true, .int 0, .int 0], .bl false], .tup [.str "12", .tup [.int 0, .int 0, .int 0], .bl false]]
theorem bad_nr {h a b c : Int} {v : Bool} {d : D} (hd : d ∈ bads h a b c v) : x_is_striking d = ret (.bl false) := by
  unfold bads at hd
  simp only [List.mem_cons, List.not_mem_nil, or_false] at hd
  rcases hd with rfl | rfl | rfl | rfl | rfl | rfl | rfl | rfl | rfl | rfl | rfl | rfl <;> kernel_rfl
theorem good_FL (n : Nat) : Good (n + 1) FL := ⟨by simp, fun d hd => by
  simp only [List.mem_cons, List.not_mem_nil, or_false] at hd
  rcases hd with rfl | rfl | rfl | rfl | rfl <;> cases n <;> trivial⟩
theorem loop6 (j : Nat) {h a b c : Int} (r : Rl h a b c) (v : Bool) (nx bk : Unit → M D) {Q : D → Prop} (hn : Ok (nx ()) Q) : Ok (x_law_6 (j + 12) FL (R h a b c v) nx bk) Q := by
  unfold x_law_6
  refine Ok.bnd (take_lit 12 (by omega)) fun t1 ⟨k1, e1, h1⟩ => ?_
  subst e1
  rw [o_add, kO_some]
  refine Ok.bnd (take_lit 24 (by omega)) fun t3 ⟨k3, e3, h3⟩ => ?_
  subst e3
  have hw : 1 ≤ 1 + (k1 : Int) ∧ 1 + (k1 : Int) ≤ 12 := by omega
  have ht : 0 ≤ (k3 : Int) ∧ (k3 : Int) ≤ 23 := by omega
  have hz : (12 - (1 + (k1 : Int) - hs 12 (k3 : Int)) % 12) % 12 = (hs 12 (k3 : Int) - (1 + (k1 : Int))) % 12 := by omega
  rw [lhour12 (show k3 < 24 by omega), bnd_ret, o_sub, kO_some, o_int, kO_some, o_mod, p12, grd_t, kO_some, show j + 12 - 1 = j + 2 + 9 from rfl, show j + 2 + 9 = j + 1 + 10 from rfl, told7, tol_ret _ (off_ok hw ht), bnd_ret, told8, tol_ret _ (set_ok hw ht), bnd_ret, o_sub, kO_some, o_int, kO_some, o_mod, p12, grd_t, kO_some, hz,
    same_lst 0 (j + 9) _ (by simp) fun d hd => by
      simp only [List.mem_cons, List.not_mem_nil, or_false] at hd
      rcases hd with rfl | rfl <;> trivial]
  have e16 : slD (R h a b c v) none (some 2) = some (.tup [.int h, .tup [.int a, .int b, .int c]]) := by kernel_rfl
  have e19 : slD (R h a b c v) (some 1) none = some (.tup [.tup [.int a, .int b, .int c], .bl v]) := by kernel_rfl
  have e17 : bltD .list [R h a b c v] = some (.lst [.int h, .tup [.int a, .int b, .int c], .bl v]) := by kernel_rfl
  have e20 : ∀ x : D, binD .add (.tup [x]) (.tup [.tup [.int a, .int b, .int c], .bl v]) = some (.tup [x, .tup [.int a, .int b, .int c], .bl v]) := fun x => by kernel_rfl
  have e25 : ∀ a1 a2 a3 a4 a5 a6 a7 a8 b1 b2 b3 b4 : D, binD .add (.lst [a1, a2, a3, a4, a5, a6, a7, a8]) (.lst [b1, b2, b3, b4]) = some (.lst [a1, a2, a3, a4, a5, a6, a7, a8, b1, b2, b3, b4]) := fun a1 a2 a3 a4 a5 a6 a7 a8 b1 b2 b3 b4 => by kernel_rfl
  simp only [bnd_ret, o_truB, kO_some, Bool.not_true, sel_f, o_asI, e16, e17, e19, e20, e25, o_neg]
  refine Ok.bnd (P := fun d => d ∈ bads h a b c v) (pick_ok (by simp)) fun bad hbad => ?_
  refine Ok.bnd (P := fun d => d = .int (-1) ∨ d = .non ∨ d = .bl true ∨ d = .str "0") ((pick_ok (by simp)).mono fun d hd => by simpa using hd) fun cell hcell => ?_
  have hb := bad_nr hbad
  have hc := nr_check hb
  have hcount : x_is_count cell = ret (.bl false) := by
    rcases hcell with rfl | rfl | rfl | rfl <;> kernel_rfl
  have hcell2 : x_is_within cell (.int 0) (.int 1000000000000) = ret (.bl false) := by
    rcases hcell with rfl | rfl | rfl | rfl <;> kernel_rfl
  have l1 : lcM (fun d29 => bnd (x__law_told (j + 1 + 10) d29 bad (D.int 0) (D.int 0)) fun t30 => ret (some t30)) [(D.int 1), (D.int 2), (D.int 3), (D.int 4), (D.int 5), (D.int 6), (D.int 9)] = ret (.lst [FL, FL, FL, FL, FL, FL, FL]) := by
    refine (lcM_map (fun _ => FL) fun d hd => ?_)
    simp only [List.mem_cons, List.not_mem_nil, or_false] at hd
    rcases hd with rfl | rfl | rfl | rfl | rfl | rfl | rfl
    · rw [told1, tol_thr _ (nr_day hc), bnd_ret]
    · rw [told2, tol_thr _ (nr_sil hc), bnd_ret]
    · rw [told3, tol_thr _ (nr_at hc _), bnd_ret]
    · rw [told4, tol_thr _ (nr_next hc _), bnd_ret]
    · rw [told5, tol_thr _ (nr_now hc _), bnd_ret]
    · rw [told6, tol_thr _ (nr_heard hc _), bnd_ret]
    · rw [told9, tol_thr _ (nr_btw hc _ _), bnd_ret]
  have l2 : lcM (fun d32 => bnd (x__law_told (j + 1 + 10) d32 (R h a b c v) cell (D.int 0)) fun t33 => ret (some t33)) [(D.int 3), (D.int 4), (D.int 5), (D.int 6)] = ret (.lst [FL, FL, FL, FL]) := by
    refine (lcM_map (fun _ => FL) fun d hd => ?_)
    simp only [List.mem_cons, List.not_mem_nil, or_false] at hd
    rcases hd with rfl | rfl | rfl | rfl
    · rw [told3, tol_thr _ (nc_at r v hcount), bnd_ret]
    · rw [told4, tol_thr _ (nc_next r v hcount), bnd_ret]
    · rw [told5, tol_thr _ (nc_now r v hcount), bnd_ret]
    · rw [told6, tol_thr _ (nc_heard r v hcount), bnd_ret]
  have l3 : lcM (fun d45 => kO (unD d45) fun l46 => unC l46 fun which47 l48 => unC l48 fun one49 l50 => unC l50 fun two51 l52 => unN l52 (bnd (x__law_told (j + 1 + 10) which47 one49 two51 (D.int 0)) fun t53 => ret (some t53))) [(D.tup [(D.int 7), (D.int 0), (D.int 0)]), (D.tup [(D.int 7), (D.int 13), (D.int 0)]), (D.tup [(D.int 8), (D.int 1), (D.int 24)]), (D.tup [(D.int 8), (D.int 1), (D.int (-1))]), (D.tup [(D.int 7), (D.bl true), (D.int 0)]), (D.tup [(D.int 8), (D.int 1), D.non])] = ret (.lst [FL, FL, FL, FL, FL, FL]) := by
    refine (lcM_map (fun _ => FL) fun d hd => ?_)
    simp only [List.mem_cons, List.not_mem_nil, or_false] at hd
    rcases hd with rfl | rfl | rfl | rfl | rfl | rfl
    · simp only [o_unT, kO_some, unC_cons, unN_nil]; rw [told7, tol_thr _ (by kernel_rfl), bnd_ret]
    · simp only [o_unT, kO_some, unC_cons, unN_nil]; rw [told7, tol_thr _ (by kernel_rfl), bnd_ret]
    · simp only [o_unT, kO_some, unC_cons, unN_nil]; rw [told8, tol_thr _ (by kernel_rfl), bnd_ret]
    · simp only [o_unT, kO_some, unC_cons, unN_nil]; rw [told8, tol_thr _ (by kernel_rfl), bnd_ret]
    · simp only [o_unT, kO_some, unC_cons, unN_nil]; rw [told7, tol_thr _ (by kernel_rfl), bnd_ret]
    · simp only [o_unT, kO_some, unC_cons, unN_nil]; rw [told8, tol_thr _ (by kernel_rfl), bnd_ret]
  have s1 : ∀ x : D, binD .add (.lst [x, x, x, x, x, x, x]) (.lst [x, x, x, x]) = some (.lst [x, x, x, x, x, x, x, x, x, x, x]) := fun x => by kernel_rfl
  have s2 : ∀ x : D, binD .add (.lst [x, x, x, x, x, x, x, x, x, x, x]) (.lst [x, x, x, x]) = some (.lst [x, x, x, x, x, x, x, x, x, x, x, x, x, x, x]) := fun x => by kernel_rfl
  have s3 : ∀ x : D, binD .add (.lst [x, x, x, x, x, x, x, x, x, x, x, x, x, x, x]) (.lst [x, x, x, x, x, x]) = some (.lst (List.replicate 21 x)) := fun x => by kernel_rfl
  have s4 : ∀ x : D, binD .mul (.lst [x]) (.int 21) = some (.lst (List.replicate 21 x)) := fun x => by kernel_rfl
  have b1 : x_strokes_between (R h a b c v) (.int 5) (.int 4) = thr ⟨"NotRight", none⟩ := nb_second r v (by kernel_rfl) (by kernel_rfl)
  have b2 : x_strokes_between (R h a b c v) (.int (-1)) (.int 4) = thr ⟨"NotRight", none⟩ := nb_first r v (by kernel_rfl)
  have b3 : x_strokes_between (R h a b c v) (.int 0) (.int (1000000000000 + 1)) = thr ⟨"NotRight", none⟩ := nb_second r v (by kernel_rfl) (by kernel_rfl)
  have b4 : x_strokes_between (R h a b c v) (.int 0) cell = thr ⟨"NotRight", none⟩ := nb_second r v (by kernel_rfl) hcell2
  rw [l1, bnd_ret, l2, bnd_ret, s1, kO_some, told9, tol_thr _ b1, bnd_ret, told9, tol_thr _ b2, bnd_ret, tp12, kO_some, o_add, kO_some, told9, tol_thr _ b3, bnd_ret, told9, tol_thr _ b4, bnd_ret, s2, kO_some, l3, bnd_ret, s3, kO_some, s4, kO_some,
    same_lst 1 (j + 8) _ (by simp) fun d hd => by
      rw [List.eq_of_mem_replicate hd]
      exact good_FL 0]
  simp only [kO_some, kO_none, sel_t, sel_f, bnd_ret, bnd_thr, bnd_bad, ret_bnd, unC_cons, unN_nil, grd_t, grd_f, Bool.not_true, Bool.not_false, Bool.or_true, Bool.or_false, Bool.true_or, Bool.false_or, Bool.true_and, Bool.false_and, Bool.and_true, Bool.and_false, decide_true, decide_false, forC_nil, forC_cons, o_add, o_sub, o_mul, o_div, o_mod, o_pow, o_addL, o_addT, o_addS, o_mulL, o_neg, o_not, o_blD, o_asI, o_truB, o_truI, o_lt, o_le, o_gt, o_ge, o_eqI, o_neI, o_is, o_isnot, o_neB, o_eqB, o_lenT, o_lenL, o_lenS, o_abs, o_max, o_min, o_int, o_intB, o_lstL, o_lstT, o_tupL, o_tupT, o_isiN, o_isiB, o_isiI, o_isiS, o_isiT, o_isiL, ty_bb, ty_bi, ty_bs, ty_bt, ty_bl, ty_ib, ty_ii, ty_is, ty_it, ty_il, ty_sb, ty_si, ty_ss, ty_st, ty_sl, ty_tb, ty_ti, ty_ts, ty_tt, ty_tl, ty_lb, ty_li, ty_ls, ty_lt, ty_ll, ty_db, ty_di, ty_ds, ty_dt, ty_dl, o_ixT, o_ixL, o_itT, o_itL, o_unT, o_unL, o_seqT, o_seqL, o_lstD, o_snoc, o_mkL, o_mkT, o_rev, o_slL, o_slT, isN_non, isN_int, isN_bl, isN_str, isN_tup, isN_lst, o_augA, o_augS, o_sum, o_maxL, o_all, hb]
  exact hn
theorem loop4 (j : Nat) {h a b c : Int} (r : Rl h a b c) (v : Bool) (nx bk : Unit → M D) {Q : D → Prop} (hn : Ok (nx ()) Q) : Ok (x_law_4 (j + 12) FL (R h a b c v) nx bk) Q := by
  unfold x_law_4
  refine Ok.bnd (take_lit 30 (by omega)) fun t1 ⟨k1, e1, h1⟩ => ?_
  subst e1
  refine Ok.for_ (fun _ => True) _ _ _ trivial (fun d hd s _ nx1 bk1 h2 _ => ?_) fun s _ => loop6 j r v nx bk hn
  simp only [List.mem_cons, List.not_mem_nil, or_false] at hd
  rcases hd with rfl | rfl | rfl | rfl | rfl | rfl | rfl <;> exact loop5 j r v (by omega) nx1 bk1 (h2 () trivial)
theorem loop2 (j : Nat) {h a b c : Int} (r : Rl h a b c) (v : Bool) (nx bk : Unit → M D) {Q : D → Prop} (hn : Ok (nx ()) Q) : Ok (x_law_2 (j + 12) FL (R h a b c v) nx bk) Q := by
  unfold x_law_2
  rw [show rngD [D.int 6] = some ((List.range 6).map fun (k : Nat) => D.int (k : Int)) from rng_one (m := 6) (by omega), kO_some]
  exact Ok.for_ (fun _ => True) _ _ _ trivial (fun d hd s _ nx1 bk1 h2 _ => loop3 j r v d nx1 bk1 (h2 () trivial)) fun s _ => loop4 j r v nx bk hn
theorem atT (T : List Int) {k : Nat} (hk : k < T.length) : L2.atI (T.map D.int) (k : Int) = some (.int (T.getD k 0)) := by
  rw [atI_ok _ k (by rw [List.length_map]; exact hk), List.getElem_map, List.getD_eq_getElem?_getD, List.getElem?_eq_getElem hk]
  rfl
theorem gaps_eq (T : List Int) (h0 : 0 < T.length) : (List.range (T.length - 1)).map (fun k => T.getD (k + 1) 0 - T.getD k 0) ++ [0 + 96 - T.getD (T.length - 1) 0] = gaps T 0 := by
  have gd : ∀ {i : Nat} (h : i < T.length), T.getD i 0 = T[i] := fun {i} h => by
    rw [List.getD_eq_getElem?_getD, List.getElem?_eq_getElem h]
    rfl
  unfold gaps
  refine List.ext_getElem (by simp; omega) fun i h1 h2 => ?_
  have hl : i < T.length := by
    simp at h1
    omega
  rw [List.getElem_map, List.getElem_zip]
  dsimp only
  by_cases q : i < T.length - 1
  · rw [List.getElem_append_left (by simpa using q), List.getElem_map, List.getElem_range, List.getElem_append_left (by simpa using q), List.getElem_drop, gd (by omega), gd hl]
    simp only [Nat.add_comm 1 i]
  · have e : i = T.length - 1 := by omega
    rw [List.getElem_append_right (by simpa using (by omega : T.length - 1 ≤ i)), List.getElem_append_right (by simpa using (by omega : T.length - 1 ≤ i)), List.getElem_singleton, List.getElem_singleton, ← e, gd hl]
theorem loop0 (j : Nat) (d : D) (nx bk : Unit → M D) {Q : D → Prop} (hn : Ok (nx ()) Q) : Ok (x_law_0 (j + 12) FL d nx bk) Q := by
  unfold x_law_0
  refine Ok.bnd rule_ok fun rule ⟨h, a, b, c, v, e, r⟩ => ?_
  subst e
  obtain ⟨T, hT⟩ : ∃ T, ((st h a b c v).map fun (k : Nat) => (k : Int)) = T := ⟨_, rfl⟩
  obtain ⟨t, ht⟩ := st_cons r v
  have hlen : T.length ≤ 96 := by
    rw [← hT, List.length_map]
    unfold st
    exact Nat.le_trans (List.length_filter_le _ _) (by rw [List.length_range]; omega)
  have h0 : 0 < T.length := by
    rw [← hT, ht]
    simp
  have hg0 : T.getD 0 0 = 0 := by
    rw [← hT, ht]
    rfl
  have e1 : lcM (fun d4 => kO (ixD (.lst ((day h a b c v).map .int)) d4) fun t5 => kO (cmpD .gt t5 (D.int 0)) fun t6 => sel t6 (ret (some d4)) (ret none)) ((List.range 96).map fun (k : Nat) => D.int (k : Int)) = ret (.lst (T.map .int)) := by
    rw [lcM_filT (fun k => decide (0 < G h a b c v k)) (fun (k : Nat) => .int (k : Int)) fun k hk => by
      simp only [kO_some, kO_none, sel_t, sel_f, bnd_ret, bnd_thr, bnd_bad, ret_bnd, unC_cons, unN_nil, grd_t, grd_f, Bool.not_true, Bool.not_false, Bool.or_true, Bool.or_false, Bool.true_or, Bool.false_or, Bool.true_and, Bool.false_and, Bool.and_true, Bool.and_false, decide_true, decide_false, forC_nil, forC_cons, o_add, o_sub, o_mul, o_div, o_mod, o_pow, o_addL, o_addT, o_addS, o_mulL, o_neg, o_not, o_blD, o_asI, o_truB, o_truI, o_lt, o_le, o_gt, o_ge, o_eqI, o_neI, o_is, o_isnot, o_neB, o_eqB, o_lenT, o_lenL, o_lenS, o_abs, o_max, o_min, o_int, o_intB, o_lstL, o_lstT, o_tupL, o_tupT, o_isiN, o_isiB, o_isiI, o_isiS, o_isiT, o_isiL, ty_bb, ty_bi, ty_bs, ty_bt, ty_bl, ty_ib, ty_ii, ty_is, ty_it, ty_il, ty_sb, ty_si, ty_ss, ty_st, ty_sl, ty_tb, ty_ti, ty_ts, ty_tt, ty_tl, ty_lb, ty_li, ty_ls, ty_lt, ty_ll, ty_db, ty_di, ty_ds, ty_dt, ty_dl, o_ixT, o_ixL, o_itT, o_itL, o_unT, o_unL, o_seqT, o_seqL, o_lstD, o_snoc, o_mkL, o_mkT, o_rev, o_slL, o_slT, isN_non, isN_int, isN_bl, isN_str, isN_tup, isN_lst, o_augA, o_augS, o_sum, o_maxL, o_all, day_at v (List.mem_range.mp hk)]
      cases decide (0 < G h a b c v k) <;> rfl]
    rw [← hT, List.map_map]
    rfl
  have hl1 : (T.length : Int) - 1 = ((T.length - 1 : Nat) : Int) := by omega
  have e2 : lcM (fun d11 => kO (binD .add d11 (D.int 1)) fun t12 => kO (ixD (.lst (T.map .int)) t12) fun t13 => kO (ixD (.lst (T.map .int)) d11) fun t14 => kO (binD .sub t13 t14) fun t15 => ret (some t15)) ((List.range (T.length - 1)).map fun (k : Nat) => D.int (k : Int)) = ret (.lst (((List.range (T.length - 1)).map fun k => T.getD (k + 1) 0 - T.getD k 0).map .int)) := by
    rw [lcM_mapT (fun k => .int (T.getD (k + 1) 0 - T.getD k 0)) fun k hk => by
      have hk2 : k < T.length - 1 := List.mem_range.mp hk
      have e : (k : Int) + 1 = ((k + 1 : Nat) : Int) := by omega
      simp only [kO_some, kO_none, sel_t, sel_f, bnd_ret, bnd_thr, bnd_bad, ret_bnd, unC_cons, unN_nil, grd_t, grd_f, Bool.not_true, Bool.not_false, Bool.or_true, Bool.or_false, Bool.true_or, Bool.false_or, Bool.true_and, Bool.false_and, Bool.and_true, Bool.and_false, decide_true, decide_false, forC_nil, forC_cons, o_add, o_sub, o_mul, o_div, o_mod, o_pow, o_addL, o_addT, o_addS, o_mulL, o_neg, o_not, o_blD, o_asI, o_truB, o_truI, o_lt, o_le, o_gt, o_ge, o_eqI, o_neI, o_is, o_isnot, o_neB, o_eqB, o_lenT, o_lenL, o_lenS, o_abs, o_max, o_min, o_int, o_intB, o_lstL, o_lstT, o_tupL, o_tupT, o_isiN, o_isiB, o_isiI, o_isiS, o_isiT, o_isiL, ty_bb, ty_bi, ty_bs, ty_bt, ty_bl, ty_ib, ty_ii, ty_is, ty_it, ty_il, ty_sb, ty_si, ty_ss, ty_st, ty_sl, ty_tb, ty_ti, ty_ts, ty_tt, ty_tl, ty_lb, ty_li, ty_ls, ty_lt, ty_ll, ty_db, ty_di, ty_ds, ty_dt, ty_dl, o_ixT, o_ixL, o_itT, o_itL, o_unT, o_unL, o_seqT, o_seqL, o_lstD, o_snoc, o_mkL, o_mkT, o_rev, o_slL, o_slT, isN_non, isN_int, isN_bl, isN_str, isN_tup, isN_lst, o_augA, o_augS, o_sum, o_maxL, o_all, e, atT T (show k + 1 < T.length by omega), atT T (show k < T.length by omega)], List.map_map]
    rfl
  obtain ⟨M, hM⟩ : ∃ M, maxI (gaps T 0) = some M := by
    rw [← gaps_eq T h0]
    cases (List.range (T.length - 1)).map (fun k => T.getD (k + 1) 0 - T.getD k 0) with
    | nil => exact ⟨_, rfl⟩
    | cons x l => exact ⟨_, rfl⟩
  have e3 : (((List.range (T.length - 1)).map fun k => T.getD (k + 1) 0 - T.getD k 0).map D.int) ++ [D.int (0 + 96 - T.getD (T.length - 1) 0)] = (gaps T 0).map .int := by
    rw [← gaps_eq T h0, List.map_append]
    rfl
  have e4 : lcM (fun d25 => bnd (x__law_told (j + 1 + 10) d25 (R h a b c v) (D.int 0) (D.int 0)) fun t26 => ret (some t26)) [.int 0, .int 1, .int 2] = ret (.lst [.bl true, .int (sumG h a b c v 96), .int (900 * M)]) := by
    refine lcM_list ⟨?_, ?_, ?_, trivial⟩
    · dsimp only; rw [told0, tol_ret _ (striking_ok r v), bnd_ret]
    · dsimp only; rw [told1, tol_ret _ (aday_ok r v), bnd_ret]
    · dsimp only; rw [told2, tol_ret _ (silence_ok r v (by rw [hT]; exact hM)), bnd_ret]
  have at00 : L2.atI (T.map D.int) 0 = some (.int 0) := by
    have := atT T (k := 0) h0
    rw [hg0] at this
    exact this
  have r3 : rngD [D.int 3] = some [.int 0, .int 1, .int 2] := by kernel_rfl
  rw [day_ok r v, bnd_ret, show rngD [D.int 96] = some ((List.range 96).map fun (k : Nat) => D.int (k : Int)) from rng_one (m := 96) (by omega), kO_some, e1, bnd_ret]
  simp only [o_lenL, kO_some, List.length_map, o_sub, hl1]
  rw [rng_one (show T.length - 1 ≤ 16777216 by omega), kO_some, e2, bnd_ret, o_ixL, at00, kO_some, o_add, kO_some, o_ixL, atT T (show T.length - 1 < T.length by omega), kO_some, o_sub, kO_some, o_addL, e3, sz_ok (by simp; omega), grd_t, kO_some, r3, kO_some, show j + 12 - 1 = j + 1 + 10 from rfl, e4, bnd_ret, o_sum, kO_some, o_maxL, hM, Option.map_some, kO_some, o_mul, mul_ok' (by omega), grd_t, kO_some]
  show Ok (bnd (x__law_same (j + 9 + 0 + 2) (.lst [.bl true, .int (sumG h a b c v 96), .int (900 * M)]) (.lst [.bl true, .int (sumG h a b c v 96), .int (900 * M)])) _) _
  rw [same_lst 0 (j + 9) _ (by simp) fun d hd => by
      simp only [List.mem_cons, List.not_mem_nil, or_false] at hd
      rcases hd with rfl | rfl | rfl <;> trivial]
  simp only [kO_some, kO_none, sel_t, sel_f, bnd_ret, bnd_thr, bnd_bad, ret_bnd, unC_cons, unN_nil, grd_t, grd_f, Bool.not_true, Bool.not_false, Bool.or_true, Bool.or_false, Bool.true_or, Bool.false_or, Bool.true_and, Bool.false_and, Bool.and_true, Bool.and_false, decide_true, decide_false, forC_nil, forC_cons, o_add, o_sub, o_mul, o_div, o_mod, o_pow, o_addL, o_addT, o_addS, o_mulL, o_neg, o_not, o_blD, o_asI, o_truB, o_truI, o_lt, o_le, o_gt, o_ge, o_eqI, o_neI, o_is, o_isnot, o_neB, o_eqB, o_lenT, o_lenL, o_lenS, o_abs, o_max, o_min, o_int, o_intB, o_lstL, o_lstT, o_tupL, o_tupT, o_isiN, o_isiB, o_isiI, o_isiS, o_isiT, o_isiL, ty_bb, ty_bi, ty_bs, ty_bt, ty_bl, ty_ib, ty_ii, ty_is, ty_it, ty_il, ty_sb, ty_si, ty_ss, ty_st, ty_sl, ty_tb, ty_ti, ty_ts, ty_tt, ty_tl, ty_lb, ty_li, ty_ls, ty_lt, ty_ll, ty_db, ty_di, ty_ds, ty_dt, ty_dl, o_ixT, o_ixL, o_itT, o_itL, o_unT, o_unL, o_seqT, o_seqL, o_lstD, o_snoc, o_mkL, o_mkT, o_rev, o_slL, o_slT, isN_non, isN_int, isN_bl, isN_str, isN_tup, isN_lst, o_augA, o_augS, o_sum, o_maxL, o_all]
  rw [show rngD [D.int 12] = some ((List.range 12).map fun (k : Nat) => D.int (k : Int)) from rng_one (m := 12) (by omega), kO_some]
  exact Ok.for_ (fun _ => True) _ _ _ trivial (fun d hd s _ nx1 bk1 h2 _ => loop1 j r v d nx1 bk1 (h2 () trivial)) fun s _ => loop2 j r v nx bk hn
theorem last_ok (j : Nat) : x_law_7 (j + 12) = ret (.bl true) := by
  have r : Rl 12 1 2 3 := ⟨.inl rfl, by omega, by omega, by omega⟩
  have e1 : x_strokes_at (D.tup [(D.int 12), (D.tup [(D.int 1), (D.int 2), (D.int 3)]), (D.bl false)]) (D.int 0) = ret (.int 12) := by kernel_rfl
  have e2 : x_strokes_at (D.tup [(D.int 12), (D.tup [(D.int 1), (D.int 2), (D.int 3)]), (D.bl false)]) (D.int 5400) = ret (.int 2) := by kernel_rfl
  have e3 : x_strokes_a_day (D.tup [(D.int 12), (D.tup [(D.int 1), (D.int 2), (D.int 3)]), (D.bl false)]) = ret (.int 300) := by kernel_rfl
  have e4 : x_strokes_between (D.tup [(D.int 12), (D.tup [(D.int 1), (D.int 2), (D.int 3)]), (D.bl false)]) (D.int 0) (D.int 3601) = ret (.int 19) := by kernel_rfl
  have e5 : x_hours_heard (D.tup [(D.int 12), (D.tup [(D.int 1), (D.int 2), (D.int 3)]), (D.bl false)]) (D.int 3) = ret (.lst [.int 3, .int 15]) := by kernel_rfl
  have e6 : x_next_striking (D.tup [(D.int 12), (D.tup [(D.int 1), (D.int 2), (D.int 3)]), (D.bl false)]) (D.int 1) = ret (.int 900) := next_ok r false (s := 1) (by omega) (m := 0) (by omega) (by decide) (fun i hi => by omega)
  have e7 : x_off_by (D.int 3) (D.int 14) = ret (.int 1) := by kernel_rfl
  have e8 : x_strikes_to_set (D.int 3) (D.int 14) = ret (.int 11) := by kernel_rfl
  have e9 : x_longest_silence (D.tup [(D.int 12), (D.tup [(D.int 0), (D.int 0), (D.int 0)]), (D.bl false)]) = ret (.int 3600) := by kernel_rfl
  have e10 : binD .add (.lst [.int 12, .int 2, .int 300, .int 19, .lst [.int 3, .int 15], .int 900, .int 1, .int 11]) (.lst [.int 3600]) = some (.lst [.int 12, .int 2, .int 300, .int 19, .lst [.int 3, .int 15], .int 900, .int 1, .int 11, .int 3600]) := by kernel_rfl
  unfold x_law_7
  rw [e1, bnd_ret, e2, bnd_ret, e3, bnd_ret, e4, bnd_ret, e5, bnd_ret, e6, bnd_ret, e7, bnd_ret, e8, bnd_ret, e9, bnd_ret, e10, kO_some]
  exact same_lst 1 (j + 8) _ (by simp) fun d hd => by
      simp only [List.mem_cons, List.not_mem_nil, or_false] at hd
      rcases hd with rfl | rfl | rfl | rfl | rfl | rfl | rfl | rfl | rfl <;> first | trivial | exact ⟨by simp, fun d hd => by
        simp only [List.mem_cons, List.not_mem_nil, or_false] at hd
        rcases hd with rfl | rfl <;> trivial⟩
theorem law_ok (j : Nat) : Ok (x_law (j + 12)) fun d => d = .bl true := by
  unfold x_law
  rw [show rngD [D.int 4] = some ((List.range 4).map fun (k : Nat) => D.int (k : Int)) from rng_one (m := 4) (by omega), kO_some]
  exact Ok.for_ (fun _ => True) _ _ _ trivial (fun d hd s _ nx1 bk1 h2 _ => loop0 j d nx1 bk1 (h2 () trivial)) fun s _ => Ok.of (last_ok j) (Ok.ret rfl)
theorem hl (js : List Int) : ∃ dr', evB (pr.at 21) dd_law.body (.no :: .val .drw :: List.replicate (dd_law.N.length - 2) .no) js.reverse = .ok (.rt (.bl true)) dr' :=
  law_of (s_law 20 (by omega)) (law_ok 9) js.reverse
end K11
namespace K11
open PySem Cr
/-! ### the row of draws -/
def DI (n : Nat) (s : D × D) : Prop := ∃ (ds : List Int) (seed : Int), s = (.lst (ds.map .int), .int seed) ∧ ds.length ≤ n ∧ 0 ≤ seed ∧ seed < 2147483647
theorem snoc_int {ds : List Int} {x : Int} (h : ds.length ≤ 1000000) : snocL (ds.map D.int) (.int x) = some (.lst ((ds ++ [x]).map .int)) := by
  rw [o_snoc, decide_eq_true (by rw [List.length_map, sizeLine_eq]; omega), grd_t, List.map_append]
  rfl
theorem dr_seed {seed : Int} (h0 : 0 ≤ seed) (h1 : seed < 2147483647) (c : Int) : mulOk seed c = true := mul_ok' (by omega)
theorem dr5 {n : Nat} {s : D × D} (h : DI n s) (hn : n ≤ 900000) (d : D) : ∃ s', DI (n + 1) s' ∧ ∀ nx bk, x__law_draws_5 d s.1 s.2 nx bk = nx s' := by
  obtain ⟨ds, seed, rfl, hl, h0, h1⟩ := h
  have d5 : divOk 5 = true := by decide +kernel
  refine ⟨(.lst ((ds ++ [(seed * 48271 + 69621) % 2147483647 / 5]).map .int), .int ((seed * 48271 + 69621) % 2147483647)), ⟨_, _, rfl, by rw [List.length_append]; simp; omega, by omega, by omega⟩, fun nx bk => ?_⟩
  unfold x__law_draws_5
  simp only [o_mul, dr_seed h0 h1, grd_t, kO_some, o_add, o_int, o_mod, show decide ((0 : Int) < 2147483647) = true by decide, o_lstD, o_div, d5]
  rw [snoc_int (by omega), kO_some]
def DN (n : Nat) (s : D × D) : Prop := ∃ (ds : List Int) (num : Int), s = (.lst (ds.map .int), .int num) ∧ ds.length ≤ n ∧ 0 ≤ num
theorem dr2 {n : Nat} {s : D × D} (h : DN n s) (hn : n ≤ 900000) (d : D) : ∃ s', DN (n + 1) s' ∧ ∀ nx bk, x__law_draws_2 d s.1 s.2 nx bk = nx s' := by
  obtain ⟨ds, num, rfl, hl, h0⟩ := h
  have d997 : divOk 997 = true := by decide +kernel
  by_cases hp : 0 < num
  · refine ⟨(.lst ((ds ++ [num % 997]).map .int), .int (num / 997)), ⟨_, _, rfl, by rw [List.length_append]; simp; omega, by omega⟩, fun nx bk => ?_⟩
    unfold x__law_draws_2
    simp only [o_gt, decide_eq_true hp, kO_some, sel_t, o_lstD, o_int, o_mod, show decide ((0 : Int) < 997) = true by decide, grd_t, o_div, d997]
    rw [snoc_int (by omega), kO_some]
  · refine ⟨(.lst (ds.map .int), .int num), ⟨_, _, rfl, by omega, h0⟩, fun nx bk => ?_⟩
    unfold x__law_draws_2
    simp only [o_gt, decide_eq_false hp, kO_some, sel_f]
theorem dr1 {n : Nat} {ds : List Int} {seed num : Int} (hl : ds.length ≤ n) (hn : n ≤ 800000) (h0 : 0 ≤ seed) (h1 : seed < 2147483647) (h2 : 0 ≤ num) : ∃ s', DI (n + 60) s' ∧ ∀ nx bk : D × D → M D, x__law_draws_1 (.lst (ds.map .int)) (.int seed) (.int num) nx bk = nx s' := by
  obtain ⟨f, hD, hf⟩ := forC_all (b := fun d s3 nx bk => x__law_draws_2 d s3.1 s3.2 nx bk) (α := D) DN ((List.range 60).map fun (k : Nat) => D.int (k : Int)) n (.lst (ds.map .int), .int num) ⟨ds, num, rfl, hl, h2⟩ fun i d s _ hi h => dr2 h (by simp at hi; omega) d
  have hD : DN (n + 60) f := by simpa using hD
  obtain ⟨ds3, num3, rfl, hl3, _⟩ := hD
  refine ⟨(.lst (ds3.map .int), .int seed), ⟨ds3, seed, rfl, hl3, h0, h1⟩, fun nx bk => ?_⟩
  unfold x__law_draws_1
  rw [show rngD [D.int 60] = some ((List.range 60).map fun (k : Nat) => D.int (k : Int)) from rng_one (m := 60) (by omega), kO_some, hf]
  rfl
theorem dr0 {n : Nat} {s : D × D} (h : DI n s) (hn : n ≤ 700000) (c : Int) : ∃ s', DI (n + 62) s' ∧ ∀ nx bk, x__law_draws_0 (.int c) s.1 s.2 nx bk = nx s' := by
  obtain ⟨ds, seed, rfl, hl, h0, h1⟩ := h
  have hp : binD .pow (.int 10) (.int 18) = some (.int 1000000000000000000) := by kernel_rfl
  have ha : 0 ≤ (if c < 0 then -c else c) := by split <;> omega
  generalize hA : (if c < 0 then -c else c) = a at ha
  by_cases hlt : a < 1000000000000000000
  · obtain ⟨s', i, e⟩ := dr1 (n := n + 2) (ds := ds ++ [a % 997] ++ [(seed * 48271 + a + 1) % 2147483647 % 65521]) (seed := (seed * 48271 + a + 1) % 2147483647) (num := 0) (by simp; omega) (by omega) (by omega) (by omega) (by omega)
    refine ⟨s', i, fun nx bk => ?_⟩
    unfold x__law_draws_0
    simp only [o_int, kO_some, o_abs, hA, o_mul, dr_seed h0 h1, grd_t, o_add, o_mod, show decide ((0 : Int) < 2147483647) = true by decide, hp, o_lt, decide_eq_true hlt, sel_t, o_lstD, show decide ((0 : Int) < 997) = true by decide, show decide ((0 : Int) < 65521) = true by decide]
    rw [snoc_int (by omega), kO_some]
    simp only [o_lstD, kO_some]
    rw [snoc_int (by simp; omega), kO_some]
    exact e nx bk
  · obtain ⟨s', i, e⟩ := dr1 (n := n + 2) (ds := ds) (seed := (seed * 48271 + a + 1) % 2147483647) (num := a) (by omega) (by omega) (by omega) (by omega) ha
    refine ⟨s', i, fun nx bk => ?_⟩
    unfold x__law_draws_0
    simp only [o_int, kO_some, o_abs, hA, o_mul, dr_seed h0 h1, grd_t, o_add, o_mod, show decide ((0 : Int) < 2147483647) = true by decide, hp, o_lt, decide_eq_false hlt, sel_f]
    exact e nx bk
theorem dr4 {n : Nat} {s : D × D} (h : DI n s) (hn : n ≤ 700000) : ∃ ds : List Int, x__law_draws_4 s.1 s.2 = ret (.lst (ds.map .int)) := by
  obtain ⟨s', ⟨ds, seed, rfl, hl, _⟩, e⟩ := forC_inv (b := fun d s3 nx bk => x__law_draws_5 d s3.1 s3.2 nx bk) DI ((List.range 700).map fun (k : Nat) => D.int (k : Int)) n s (fun s2 => x__law_draws_6 s2.1) h fun i d s _ hi h => dr5 h (by simp at hi; omega) d
  refine ⟨ds.reverse, ?_⟩
  unfold x__law_draws_4
  rw [show rngD [D.int 700] = some ((List.range 700).map fun (k : Nat) => D.int (k : Int)) from rng_one (m := 700) (by omega), kO_some]
  refine e.trans ?_
  unfold x__law_draws_6
  rw [o_rev, kO_some, List.map_reverse]
theorem hd (is : List Int) (hl : is.length ≤ 63) : ∃ js : List Int, callD (pr.at 20) dd__law_draws.N.length dd__law_draws.body [.ilst is] [] = .ok (.lst (js.map .int)) [] := by
  obtain ⟨s', i, e⟩ := forC_inv (b := fun d s3 nx bk => x__law_draws_0 d s3.1 s3.2 nx bk) (fun n => DI (62 * n)) (is.map D.int) 0 (D.lst [], D.int 11) (fun s2 => x__law_draws_4 s2.1 s2.2) ⟨[], 11, rfl, by simp, by omega, by omega⟩ fun i d s hd hi h => by
    obtain ⟨c, _, rfl⟩ := List.mem_map.mp hd
    rw [List.length_map] at hi
    obtain ⟨s', i2, e2⟩ := dr0 h (by omega) c
    exact ⟨s', by rw [show 62 * (i + 1) = 62 * i + 62 by omega]; exact i2, e2⟩
  rw [List.length_map] at i
  obtain ⟨ds, e2⟩ := dr4 i (by omega)
  refine ⟨ds, ?_⟩
  show callD (pr.at 20) 6 b__law_draws [.ilst is] [] = _
  refine callD_of (m := x__law_draws (.ilst is)) ((callD_run (G := pr.at 20) (n := 6) (body := b__law_draws) (args := [.ilst is]) (Nat.le_of_ble_eq_true rfl)).trans (s__law_draws 19 (by omega) (.ilst is))) ?_ []
  unfold x__law_draws
  rw [show iterD (.ilst is) = some (is.map D.int) from rfl, kO_some]
  exact e.trans e2
end K11
namespace K11H
open PySem PySem.Spec PyProof.Rows L2 Cr K11
def topS (i : Nat) : Stmt := PySem.Challenge.pw_pinnedtunes_k11_whole_clocks_that_strike.main.body.getD i (.Pass ⟨0, 0, 0, 0⟩)
abbrev s_is_integer : Stmt := topS 7
def d_is_integer : He.DefD := ⟨("is_integer", none), "is_integer", "is_integer", defArgs s_is_integer, defBody s_is_integer, defScope s_is_integer, [], []⟩
abbrev s_is_within : Stmt := topS 8
def d_is_within : He.DefD := ⟨("is_within", none), "is_within", "is_within", defArgs s_is_within, defBody s_is_within, defScope s_is_within, [], []⟩
abbrev s_check : Stmt := topS 9
def d_check : He.DefD := ⟨("check", none), "check", "check", defArgs s_check, defBody s_check, defScope s_check, [], []⟩
abbrev s_is_count : Stmt := topS 10
def d_is_count : He.DefD := ⟨("is_count", none), "is_count", "is_count", defArgs s_is_count, defBody s_is_count, defScope s_is_count, [], []⟩
abbrev s_is_striking : Stmt := topS 20
def d_is_striking : He.DefD := ⟨("is_striking", none), "is_striking", "is_striking", defArgs s_is_striking, defBody s_is_striking, defScope s_is_striking, [], []⟩
abbrev s_check_striking : Stmt := topS 21
def d_check_striking : He.DefD := ⟨("check_striking", none), "check_striking", "check_striking", defArgs s_check_striking, defBody s_check_striking, defScope s_check_striking, [], []⟩
abbrev s_hour_strokes : Stmt := topS 22
def d_hour_strokes : He.DefD := ⟨("hour_strokes", none), "hour_strokes", "hour_strokes", defArgs s_hour_strokes, defBody s_hour_strokes, defScope s_hour_strokes, [], []⟩
abbrev s_strokes_by : Stmt := topS 23
def d_strokes_by : He.DefD := ⟨("strokes_by", none), "strokes_by", "strokes_by", defArgs s_strokes_by, defBody s_strokes_by, defScope s_strokes_by, [], []⟩
abbrev s_strokes_at : Stmt := topS 24
def d_strokes_at : He.DefD := ⟨("strokes_at", none), "strokes_at", "strokes_at", defArgs s_strokes_at, defBody s_strokes_at, defScope s_strokes_at, [], []⟩
abbrev s_strokes_ahead : Stmt := topS 25
def d_strokes_ahead : He.DefD := ⟨("strokes_ahead", none), "strokes_ahead", "strokes_ahead", defArgs s_strokes_ahead, defBody s_strokes_ahead, defScope s_strokes_ahead, [], []⟩
abbrev s_strokes_between : Stmt := topS 26
def d_strokes_between : He.DefD := ⟨("strokes_between", none), "strokes_between", "strokes_between", defArgs s_strokes_between, defBody s_strokes_between, defScope s_strokes_between, [], []⟩
abbrev s_next_striking : Stmt := topS 27
def d_next_striking : He.DefD := ⟨("next_striking", none), "next_striking", "next_striking", defArgs s_next_striking, defBody s_next_striking, defScope s_next_striking, [], []⟩
abbrev s_is_striking_now : Stmt := topS 28
def d_is_striking_now : He.DefD := ⟨("is_striking_now", none), "is_striking_now", "is_striking_now", defArgs s_is_striking_now, defBody s_is_striking_now, defScope s_is_striking_now, [], []⟩
abbrev s_hours_heard : Stmt := topS 29
def d_hours_heard : He.DefD := ⟨("hours_heard", none), "hours_heard", "hours_heard", defArgs s_hours_heard, defBody s_hours_heard, defScope s_hours_heard, [], []⟩
abbrev s_check_wheel : Stmt := topS 30
def d_check_wheel : He.DefD := ⟨("check_wheel", none), "check_wheel", "check_wheel", defArgs s_check_wheel, defBody s_check_wheel, defScope s_check_wheel, [], []⟩
abbrev s_off_by : Stmt := topS 31
def d_off_by : He.DefD := ⟨("off_by", none), "off_by", "off_by", defArgs s_off_by, defBody s_off_by, defScope s_off_by, [], []⟩
abbrev s_strikes_to_set : Stmt := topS 32
def d_strikes_to_set : He.DefD := ⟨("strikes_to_set", none), "strikes_to_set", "strikes_to_set", defArgs s_strikes_to_set, defBody s_strikes_to_set, defScope s_strikes_to_set, [], []⟩
abbrev s_strokes_a_day : Stmt := topS 33
def d_strokes_a_day : He.DefD := ⟨("strokes_a_day", none), "strokes_a_day", "strokes_a_day", defArgs s_strokes_a_day, defBody s_strokes_a_day, defScope s_strokes_a_day, [], []⟩
abbrev s_longest_silence : Stmt := topS 34
def d_longest_silence : He.DefD := ⟨("longest_silence", none), "longest_silence", "longest_silence", defArgs s_longest_silence, defBody s_longest_silence, defScope s_longest_silence, [], []⟩
abbrev s__law_draws : Stmt := topS 36
def d__law_draws : He.DefD := ⟨("_law_draws", none), "_law_draws", "_law_draws", defArgs s__law_draws, defBody s__law_draws, defScope s__law_draws, [], []⟩
abbrev s__law_take : Stmt := topS 37
def d__law_take : He.DefD := ⟨("_law_take", none), "_law_take", "_law_take", defArgs s__law_take, defBody s__law_take, defScope s__law_take, [], []⟩
abbrev s__law_pick : Stmt := topS 38
def d__law_pick : He.DefD := ⟨("_law_pick", none), "_law_pick", "_law_pick", defArgs s__law_pick, defBody s__law_pick, defScope s__law_pick, [], []⟩
abbrev s__law_same : Stmt := topS 39
def d__law_same : He.DefD := ⟨("_law_same", none), "_law_same", "_law_same", defArgs s__law_same, defBody s__law_same, defScope s__law_same, [], []⟩
abbrev s__law_rule : Stmt := topS 41
def d__law_rule : He.DefD := ⟨("_law_rule", none), "_law_rule", "_law_rule", defArgs s__law_rule, defBody s__law_rule, defScope s__law_rule, [], []⟩
abbrev s__law_hour : Stmt := topS 42
def d__law_hour : He.DefD := ⟨("_law_hour", none), "_law_hour", "_law_hour", defArgs s__law_hour, defBody s__law_hour, defScope s__law_hour, [], []⟩
abbrev s__law_day : Stmt := topS 43
def d__law_day : He.DefD := ⟨("_law_day", none), "_law_day", "_law_day", defArgs s__law_day, defBody s__law_day, defScope s__law_day, [], []⟩
abbrev s__law_ahead : Stmt := topS 44
def d__law_ahead : He.DefD := ⟨("_law_ahead", none), "_law_ahead", "_law_ahead", defArgs s__law_ahead, defBody s__law_ahead, defScope s__law_ahead, [], []⟩
abbrev s__law_told : Stmt := topS 45
def d__law_told : He.DefD := ⟨("_law_told", none), "_law_told", "_law_told", defArgs s__law_told, defBody s__law_told, defScope s__law_told, [], []⟩
abbrev s__law_is_second_right : Stmt := topS 46
def d__law_is_second_right : He.DefD := ⟨("_law_is_second_right", none), "_law_is_second_right", "_law_is_second_right", defArgs s__law_is_second_right, defBody s__law_is_second_right, defScope s__law_is_second_right, [], []⟩
abbrev s_law : Stmt := topS 47
def d_law : He.DefD := ⟨("law", none), "law", "law", defArgs s_law, defBody s_law, defScope s_law, [], []⟩
abbrev s__law_flags : Stmt := topS 40
def d__law_flags : He.DefD := ⟨("_law_flags", none), "_law_flags", "_law_flags", defArgs s__law_flags, defBody s__law_flags, defScope s__law_flags, [], []⟩
def fns : List He.DefD := [d_is_integer, d_is_within, d_check, d_is_count, d_is_striking, d_check_striking, d_hour_strokes, d_strokes_by, d_strokes_at, d_strokes_ahead, d_strokes_between, d_next_striking, d_is_striking_now, d_hours_heard, d_check_wheel, d_off_by, d_strikes_to_set, d_strokes_a_day, d_longest_silence, d__law_draws, d__law_take, d__law_pick, d__law_same, d__law_rule, d__law_hour, d__law_day, d__law_ahead, d__law_told, d__law_is_second_right, d_law, d__law_flags]
def fas : List He.Fa := .glo "law" :: faOf pr
theorem fsc {N ps : List Str} {s : Stmt} (h : (decide ((defScope s).kind = .function) && !(defScope s).isCoroutine && !(defScope s).isGenerator && decide N.Nodup && decide (N.take ps.length = ps) && ps.all (fun x => decide ((defScope s).names.lookup x = some .local) || decide ((defScope s).names.lookup x = some .cell)) && (defScope s).names.all (fun y => !decide (y.2 = .free))) = true) : FnScope N ps (defScope s) := by
  simp only [Bool.and_eq_true, decide_eq_true_eq, Bool.not_eq_true', List.all_eq_true, Bool.or_eq_true, decide_eq_false_iff_not] at h
  obtain ⟨⟨⟨⟨⟨⟨h1, h2⟩, h3⟩, h4⟩, h5⟩, h6⟩, h7⟩ := h
  exact ⟨h1, h2, h3, h4, h5, h6, h7⟩
theorem r_is_integer : RowOk pr dd_is_integer d_is_integer := ⟨rfl, rfl, rfl, rfl, rfl, @fsc dd_is_integer.N (dd_is_integer.N.take dd_is_integer.n) s_is_integer (by decide +kernel), fun _ _ _ _ _ _ us hl => match us, hl with | [_], _ => rfl, by decide +kernel, by decide⟩
theorem r_is_within : RowOk pr dd_is_within d_is_within := ⟨rfl, rfl, rfl, rfl, rfl, @fsc dd_is_within.N (dd_is_within.N.take dd_is_within.n) s_is_within (by decide +kernel), fun _ _ _ _ _ _ us hl => match us, hl with | [_, _, _], _ => rfl, by decide +kernel, by decide⟩
theorem r_check : RowOk pr dd_check d_check := ⟨rfl, rfl, rfl, rfl, rfl, @fsc dd_check.N (dd_check.N.take dd_check.n) s_check (by decide +kernel), fun _ _ _ _ _ _ us hl => match us, hl with | [_], _ => rfl, by decide +kernel, by decide⟩
theorem r_is_count : RowOk pr dd_is_count d_is_count := ⟨rfl, rfl, rfl, rfl, rfl, @fsc dd_is_count.N (dd_is_count.N.take dd_is_count.n) s_is_count (by decide +kernel), fun _ _ _ _ _ _ us hl => match us, hl with | [_], _ => rfl, by decide +kernel, by decide⟩
theorem r_is_striking : RowOk pr dd_is_striking d_is_striking := ⟨rfl, rfl, rfl, rfl, rfl, @fsc dd_is_striking.N (dd_is_striking.N.take dd_is_striking.n) s_is_striking (by decide +kernel), fun _ _ _ _ _ _ us hl => match us, hl with | [_], _ => rfl, by decide +kernel, by decide⟩
theorem r_check_striking : RowOk pr dd_check_striking d_check_striking := ⟨rfl, rfl, rfl, rfl, rfl, @fsc dd_check_striking.N (dd_check_striking.N.take dd_check_striking.n) s_check_striking (by decide +kernel), fun _ _ _ _ _ _ us hl => match us, hl with | [_], _ => rfl, by decide +kernel, by decide⟩
theorem r_hour_strokes : RowOk pr dd_hour_strokes d_hour_strokes := ⟨rfl, rfl, rfl, rfl, rfl, @fsc dd_hour_strokes.N (dd_hour_strokes.N.take dd_hour_strokes.n) s_hour_strokes (by decide +kernel), fun _ _ _ _ _ _ us hl => match us, hl with | [_, _], _ => rfl, by decide +kernel, by decide⟩
theorem r_strokes_by : RowOk pr dd_strokes_by d_strokes_by := ⟨rfl, rfl, rfl, rfl, rfl, @fsc dd_strokes_by.N (dd_strokes_by.N.take dd_strokes_by.n) s_strokes_by (by decide +kernel), fun _ _ _ _ _ _ us hl => match us, hl with | [_, _], _ => rfl, by decide +kernel, by decide⟩
theorem r_strokes_at : RowOk pr dd_strokes_at d_strokes_at := ⟨rfl, rfl, rfl, rfl, rfl, @fsc dd_strokes_at.N (dd_strokes_at.N.take dd_strokes_at.n) s_strokes_at (by decide +kernel), fun _ _ _ _ _ _ us hl => match us, hl with | [_, _], _ => rfl, by decide +kernel, by decide⟩
theorem r_strokes_ahead : RowOk pr dd_strokes_ahead d_strokes_ahead := ⟨rfl, rfl, rfl, rfl, rfl, @fsc dd_strokes_ahead.N (dd_strokes_ahead.N.take dd_strokes_ahead.n) s_strokes_ahead (by decide +kernel), fun _ _ _ _ _ _ us hl => match us, hl with | [_, _], _ => rfl, by decide +kernel, by decide⟩
theorem r_strokes_between : RowOk pr dd_strokes_between d_strokes_between := ⟨rfl, rfl, rfl, rfl, rfl, @fsc dd_strokes_between.N (dd_strokes_between.N.take dd_strokes_between.n) s_strokes_between (by decide +kernel), fun _ _ _ _ _ _ us hl => match us, hl with | [_, _, _], _ => rfl, by decide +kernel, by decide⟩
theorem r_next_striking : RowOk pr dd_next_striking d_next_striking := ⟨rfl, rfl, rfl, rfl, rfl, @fsc dd_next_striking.N (dd_next_striking.N.take dd_next_striking.n) s_next_striking (by decide +kernel), fun _ _ _ _ _ _ us hl => match us, hl with | [_, _], _ => rfl, by decide +kernel, by decide⟩
theorem r_is_striking_now : RowOk pr dd_is_striking_now d_is_striking_now := ⟨rfl, rfl, rfl, rfl, rfl, @fsc dd_is_striking_now.N (dd_is_striking_now.N.take dd_is_striking_now.n) s_is_striking_now (by decide +kernel), fun _ _ _ _ _ _ us hl => match us, hl with | [_, _], _ => rfl, by decide +kernel, by decide⟩
theorem r_hours_heard : RowOk pr dd_hours_heard d_hours_heard := ⟨rfl, rfl, rfl, rfl, rfl, @fsc dd_hours_heard.N (dd_hours_heard.N.take dd_hours_heard.n) s_hours_heard (by decide +kernel), fun _ _ _ _ _ _ us hl => match us, hl with | [_, _], _ => rfl, by decide +kernel, by decide⟩
theorem r_check_wheel : RowOk pr dd_check_wheel d_check_wheel := ⟨rfl, rfl, rfl, rfl, rfl, @fsc dd_check_wheel.N (dd_check_wheel.N.take dd_check_wheel.n) s_check_wheel (by decide +kernel), fun _ _ _ _ _ _ us hl => match us, hl with | [_, _], _ => rfl, by decide +kernel, by decide⟩
theorem r_off_by : RowOk pr dd_off_by d_off_by := ⟨rfl, rfl, rfl, rfl, rfl, @fsc dd_off_by.N (dd_off_by.N.take dd_off_by.n) s_off_by (by decide +kernel), fun _ _ _ _ _ _ us hl => match us, hl with | [_, _], _ => rfl, by decide +kernel, by decide⟩
theorem r_strikes_to_set : RowOk pr dd_strikes_to_set d_strikes_to_set := ⟨rfl, rfl, rfl, rfl, rfl, @fsc dd_strikes_to_set.N (dd_strikes_to_set.N.take dd_strikes_to_set.n) s_strikes_to_set (by decide +kernel), fun _ _ _ _ _ _ us hl => match us, hl with | [_, _], _ => rfl, by decide +kernel, by decide⟩
theorem r_strokes_a_day : RowOk pr dd_strokes_a_day d_strokes_a_day := ⟨rfl, rfl, rfl, rfl, rfl, @fsc dd_strokes_a_day.N (dd_strokes_a_day.N.take dd_strokes_a_day.n) s_strokes_a_day (by decide +kernel), fun _ _ _ _ _ _ us hl => match us, hl with | [_], _ => rfl, by decide +kernel, by decide⟩
theorem r_longest_silence : RowOk pr dd_longest_silence d_longest_silence := ⟨rfl, rfl, rfl, rfl, rfl, @fsc dd_longest_silence.N (dd_longest_silence.N.take dd_longest_silence.n) s_longest_silence (by decide +kernel), fun _ _ _ _ _ _ us hl => match us, hl with | [_], _ => rfl, by decide +kernel, by decide⟩
theorem r__law_draws : RowOk pr dd__law_draws d__law_draws := ⟨rfl, rfl, rfl, rfl, rfl, @fsc dd__law_draws.N (dd__law_draws.N.take dd__law_draws.n) s__law_draws (by decide +kernel), fun _ _ _ _ _ _ us hl => match us, hl with | [_], _ => rfl, by decide +kernel, by decide⟩
theorem r__law_take : RowOk pr dd__law_take d__law_take := ⟨rfl, rfl, rfl, rfl, rfl, @fsc dd__law_take.N (dd__law_take.N.take dd__law_take.n) s__law_take (by decide +kernel), fun _ _ _ _ _ _ us hl => match us, hl with | [_, _], _ => rfl, by decide +kernel, by decide⟩
theorem r__law_pick : RowOk pr dd__law_pick d__law_pick := ⟨rfl, rfl, rfl, rfl, rfl, @fsc dd__law_pick.N (dd__law_pick.N.take dd__law_pick.n) s__law_pick (by decide +kernel), fun _ _ _ _ _ _ us hl => match us, hl with | [_, _], _ => rfl, by decide +kernel, by decide⟩
theorem r__law_same : RowOk pr dd__law_same d__law_same := ⟨rfl, rfl, rfl, rfl, rfl, @fsc dd__law_same.N (dd__law_same.N.take dd__law_same.n) s__law_same (by decide +kernel), fun _ _ _ _ _ _ us hl => match us, hl with | [_, _], _ => rfl, by decide +kernel, by decide⟩
theorem r__law_rule : RowOk pr dd__law_rule d__law_rule := ⟨rfl, rfl, rfl, rfl, rfl, @fsc dd__law_rule.N (dd__law_rule.N.take dd__law_rule.n) s__law_rule (by decide +kernel), fun _ _ _ _ _ _ us hl => match us, hl with | [_], _ => rfl, by decide +kernel, by decide⟩
theorem r__law_hour : RowOk pr dd__law_hour d__law_hour := ⟨rfl, rfl, rfl, rfl, rfl, @fsc dd__law_hour.N (dd__law_hour.N.take dd__law_hour.n) s__law_hour (by decide +kernel), fun _ _ _ _ _ _ us hl => match us, hl with | [_, _], _ => rfl, by decide +kernel, by decide⟩
theorem r__law_day : RowOk pr dd__law_day d__law_day := ⟨rfl, rfl, rfl, rfl, rfl, @fsc dd__law_day.N (dd__law_day.N.take dd__law_day.n) s__law_day (by decide +kernel), fun _ _ _ _ _ _ us hl => match us, hl with | [_], _ => rfl, by decide +kernel, by decide⟩
theorem r__law_ahead : RowOk pr dd__law_ahead d__law_ahead := ⟨rfl, rfl, rfl, rfl, rfl, @fsc dd__law_ahead.N (dd__law_ahead.N.take dd__law_ahead.n) s__law_ahead (by decide +kernel), fun _ _ _ _ _ _ us hl => match us, hl with | [_, _], _ => rfl, by decide +kernel, by decide⟩
theorem r__law_told : RowOk pr dd__law_told d__law_told := ⟨rfl, rfl, rfl, rfl, rfl, @fsc dd__law_told.N (dd__law_told.N.take dd__law_told.n) s__law_told (by decide +kernel), fun _ _ _ _ _ _ us hl => match us, hl with | [_, _, _, _], _ => rfl, by decide +kernel, by decide⟩
theorem r__law_is_second_right : RowOk pr dd__law_is_second_right d__law_is_second_right := ⟨rfl, rfl, rfl, rfl, rfl, @fsc dd__law_is_second_right.N (dd__law_is_second_right.N.take dd__law_is_second_right.n) s__law_is_second_right (by decide +kernel), fun _ _ _ _ _ _ us hl => match us, hl with | [_, _], _ => rfl, by decide +kernel, by decide⟩
theorem r__law_flags : FlgOk ("_law_flags", "e", ["NotRight", "NotThere", "NoAnswer", "TooLarge", "Malformed"]) d__law_flags := ⟨rfl, rfl, rfl, rfl, rfl, @fsc [("e" : Str)] [("e" : Str)] s__law_flags (by decide +kernel), fun _ _ _ _ _ _ us hl => match us, hl with | [_], _ => rfl, by decide +kernel, by decide +kernel, by decide +kernel, by decide +kernel⟩
abbrev R : PySem.W.OpenRow := PySem.W.OpenLaw.row PySem.Challenge.rw_pinnedtunes_k11_whole_clocks_that_strike
abbrev hk : PySem.W.Hook := He.hookX 4 fas fns [] [] (exB pr)
def ob (s : PySem.W.SharedT) : He.AlX := He.obsX 4 fas fns [] [] (exB pr) (HandSHeadRun.getT s)
theorem ob_eq (s : PySem.W.SharedT) : ob s = hk.obs s.abs := He.obsX_eq (HandSHeadRun.getT_eq s)
def nm0 : List PySem.Str := [("TuneError" : PySem.Str), ("NotRight" : PySem.Str), ("NotThere" : PySem.Str), ("NoAnswer" : PySem.Str), ("TooLarge" : PySem.Str), ("Malformed" : PySem.Str), ("is_integer" : PySem.Str), ("is_within" : PySem.Str), ("check" : PySem.Str), ("is_count" : PySem.Str), ("HOUR" : PySem.Str), ("QUARTER" : PySem.Str), ("DAY" : PySem.Str), ("HALF_A_DAY" : PySem.Str), ("HOURS_OF_A_DAY" : PySem.Str), ("BETWEEN" : PySem.Str), ("MOST_STROKES" : PySem.Str), ("LATEST" : PySem.Str), ("is_striking" : PySem.Str), ("check_striking" : PySem.Str), ("hour_strokes" : PySem.Str), ("strokes_by" : PySem.Str), ("strokes_at" : PySem.Str), ("strokes_ahead" : PySem.Str), ("strokes_between" : PySem.Str)]
def nm1 : List PySem.Str := [("next_striking" : PySem.Str), ("is_striking_now" : PySem.Str), ("hours_heard" : PySem.Str), ("check_wheel" : PySem.Str), ("off_by" : PySem.Str), ("strikes_to_set" : PySem.Str), ("strokes_a_day" : PySem.Str), ("longest_silence" : PySem.Str), ("_law_draws" : PySem.Str), ("_law_take" : PySem.Str), ("_law_pick" : PySem.Str), ("_law_same" : PySem.Str), ("_law_flags" : PySem.Str), ("_law_rule" : PySem.Str), ("_law_hour" : PySem.Str), ("_law_day" : PySem.Str), ("_law_ahead" : PySem.Str), ("_law_told" : PySem.Str), ("_law_is_second_right" : PySem.Str)]
def nms : List PySem.Str := nm0 ++ nm1
theorem run (w : World) : HandSHeadRun.RunEq R (PySem.W.view R.prog [47]) hk ob 4000 nms w := by
  intro os
  kernel_rfl
theorem ok_of {K : PySem.W.Frag} {h : Heap} {mg : Str → Option Value} (X : K.In h) (G : h.Ns mainGlobals mg) {w : World} (c : He.SaysX fas fns [] [] (exB pr) w h K) : PrOk pr K mg := by
  have cd := He.SaysT.d c.t
  refine prOk_of X G (fun f hf => cd.facts (List.mem_cons_of_mem _ hf)) c.more ?_ ?_ (by decide +kernel) (by decide +kernel) (by decide +kernel)
  · exact (List.forall_mem_cons.mpr ⟨⟨d_is_integer, r_is_integer, cd.def_ 0 (d := d_is_integer)⟩, (List.forall_mem_cons.mpr ⟨⟨d_is_within, r_is_within, cd.def_ 1 (d := d_is_within)⟩, (List.forall_mem_cons.mpr ⟨⟨d_check, r_check, cd.def_ 2 (d := d_check)⟩, (List.forall_mem_cons.mpr ⟨⟨d_is_count, r_is_count, cd.def_ 3 (d := d_is_count)⟩, (List.forall_mem_cons.mpr ⟨⟨d_is_striking, r_is_striking, cd.def_ 4 (d := d_is_striking)⟩, (List.forall_mem_cons.mpr ⟨⟨d_check_striking, r_check_striking, cd.def_ 5 (d := d_check_striking)⟩, (List.forall_mem_cons.mpr ⟨⟨d_hour_strokes, r_hour_strokes, cd.def_ 6 (d := d_hour_strokes)⟩, (List.forall_mem_cons.mpr ⟨⟨d_strokes_by, r_strokes_by, cd.def_ 7 (d := d_strokes_by)⟩, (List.forall_mem_cons.mpr ⟨⟨d_strokes_at, r_strokes_at, cd.def_ 8 (d := d_strokes_at)⟩, (List.forall_mem_cons.mpr ⟨⟨d_strokes_ahead, r_strokes_ahead, cd.def_ 9 (d := d_strokes_ahead)⟩, (List.forall_mem_cons.mpr ⟨⟨d_strokes_between, r_strokes_between, cd.def_ 10 (d := d_strokes_between)⟩, (List.forall_mem_cons.mpr ⟨⟨d_next_striking, r_next_striking, cd.def_ 11 (d := d_next_striking)⟩, (List.forall_mem_cons.mpr ⟨⟨d_is_striking_now, r_is_striking_now, cd.def_ 12 (d := d_is_striking_now)⟩, (List.forall_mem_cons.mpr ⟨⟨d_hours_heard, r_hours_heard, cd.def_ 13 (d := d_hours_heard)⟩, (List.forall_mem_cons.mpr ⟨⟨d_check_wheel, r_check_wheel, cd.def_ 14 (d := d_check_wheel)⟩, (List.forall_mem_cons.mpr ⟨⟨d_off_by, r_off_by, cd.def_ 15 (d := d_off_by)⟩, (List.forall_mem_cons.mpr ⟨⟨d_strikes_to_set, r_strikes_to_set, cd.def_ 16 (d := d_strikes_to_set)⟩, (List.forall_mem_cons.mpr ⟨⟨d_strokes_a_day, r_strokes_a_day, cd.def_ 17 (d := d_strokes_a_day)⟩, (List.forall_mem_cons.mpr ⟨⟨d_longest_silence, r_longest_silence, cd.def_ 18 (d := d_longest_silence)⟩, (List.forall_mem_cons.mpr ⟨⟨d__law_draws, r__law_draws, cd.def_ 19 (d := d__law_draws)⟩, (List.forall_mem_cons.mpr ⟨⟨d__law_take, r__law_take, cd.def_ 20 (d := d__law_take)⟩, (List.forall_mem_cons.mpr ⟨⟨d__law_pick, r__law_pick, cd.def_ 21 (d := d__law_pick)⟩, (List.forall_mem_cons.mpr ⟨⟨d__law_same, r__law_same, cd.def_ 22 (d := d__law_same)⟩, (List.forall_mem_cons.mpr ⟨⟨d__law_rule, r__law_rule, cd.def_ 23 (d := d__law_rule)⟩, (List.forall_mem_cons.mpr ⟨⟨d__law_hour, r__law_hour, cd.def_ 24 (d := d__law_hour)⟩, (List.forall_mem_cons.mpr ⟨⟨d__law_day, r__law_day, cd.def_ 25 (d := d__law_day)⟩, (List.forall_mem_cons.mpr ⟨⟨d__law_ahead, r__law_ahead, cd.def_ 26 (d := d__law_ahead)⟩, (List.forall_mem_cons.mpr ⟨⟨d__law_told, r__law_told, cd.def_ 27 (d := d__law_told)⟩, (List.forall_mem_cons.mpr ⟨⟨d__law_is_second_right, r__law_is_second_right, cd.def_ 28 (d := d__law_is_second_right)⟩, (fun _ h => nomatch h)⟩)⟩)⟩)⟩)⟩)⟩)⟩)⟩)⟩)⟩)⟩)⟩)⟩)⟩)⟩)⟩)⟩)⟩)⟩)⟩)⟩)⟩)⟩)⟩)⟩)⟩)⟩)⟩)⟩)
  · exact (List.forall_mem_cons.mpr ⟨⟨d__law_flags, r__law_flags, cd.def_ 30 (d := d__law_flags)⟩, (fun _ h => nomatch h)⟩)
theorem sc_law : FnScope dd_law.N (dd_law.N.take dd_law.n) (defScope s_law) := @fsc dd_law.N (dd_law.N.take dd_law.n) s_law (by decide +kernel)
def rest : List Stmt := (defBody s_law).drop 1
theorem facts {P : Program} {w : World} {K : PySem.W.Frag} {h : Heap} {mg : Str → Option Value} {f : Addr} (X : K.In h) (G : h.Ns mainGlobals mg) (hfa : mg ("law" : Str) = some (.ref f)) (c : He.SaysX fas fns [] [] (exB pr) w h K)
    (hd : ∀ is : List Int, is.length ≤ 63 → ∃ js : List Int, callD (pr.at 20) dd__law_draws.N.length dd__law_draws.body [.ilst is] [] = .ok (.lst (js.map .int)) [])
    (hl : ∀ js : List Int, ∃ dr', evB (pr.at 21) dd_law.body (.no :: .val .drw :: List.replicate (dd_law.N.length - 2) .no) js.reverse = .ok (.rt (.bl true)) dr') :
    ∃ fd : FuncData, (∀ (s : Shared) (v : Value), BindsTo s fd ⟨[v], []⟩ [(("script" : Str), v)]) ∧ ∀ base : Heap, K.In base → base.Ns mainGlobals mg → FnOk P w K mg base L2.CX0 23 f fd [("script" : Str)] (spLaw K) := by
  have ok := ok_of X G c
  obtain ⟨fd, F⟩ := (He.SaysT.d c.t).def_ 29 (d := d_law)
  have e := hfa.symm.trans (He.glo_ok X G ((He.SaysT.d c.t).facts (f := .glo "law") List.mem_cons_self))
  cases e
  have b := FunD.bindsA (ps := [("script" : Str)]) F fun _ _ _ _ _ _ us hl => match us, hl with | [_], _ => rfl
  exact ⟨fd, fun s v => b s [v] rfl, fun base _ _ => law_ok0 (law_ok (d := dd_law) ok (dd := dd__law_draws) (by unfold pr; simp) rfl rfl F sc_law rfl (by decide +kernel) (rest := rest) (by kernel_rfl) (by decide +kernel) 20 hd hl)⟩
end K11H
open PySem PySem.W PySem.Calls PyProof.Rows
theorem PySem.Challenge.cw_pinnedtunes_k11_whole_clocks_that_strike_holds_of
    (hd : ∀ is : List Int, is.length ≤ 63 → ∃ js : List Int, Cr.callD (K11.pr.at 20) K11.dd__law_draws.N.length K11.dd__law_draws.body [.ilst is] [] = .ok (.lst (js.map .int)) [])
    (hl : ∀ js : List Int, ∃ dr', Cr.evB (K11.pr.at 21) K11.dd_law.body (.no :: .val .drw :: List.replicate (K11.dd_law.N.length - 2) .no) js.reverse = .ok (.rt (.bl true)) dr') : PySem.Challenge.rw_pinnedtunes_k11_whole_clocks_that_strike.Holds := by
  w_on; o_law
  refine HandSHeadRun.head_any (r := OpenLaw.row PySem.Challenge.rw_pinnedtunes_k11_whole_clocks_that_strike) (q := view (OpenLaw.row PySem.Challenge.rw_pinnedtunes_k11_whole_clocks_that_strike).prog [47]) (H := K11H.hk) (ob := K11H.ob) (M := 4000) (loose := K11H.nms) (d := HandSHeadRun.topDef (OpenLaw.row PySem.Challenge.rw_pinnedtunes_k11_whole_clocks_that_strike).prog 47) (kwd := []) K11H.ob_eq
    (by kernel_rfl) (fun s => by kernel_rfl) K11H.run (by kernel_rfl) (by kernel_rfl) (by kernel_rfl) (by rfl) (by first | assumption | decide +kernel) (by decide +kernel) ⟨rfl, rfl, rfl, rfl, rfl, by decide +kernel⟩ ?hw ?hc
  case hw => w_witness2
  case hc =>
    refine L2.walk_ofE (l := PySem.Challenge.rw_pinnedtunes_k11_whole_clocks_that_strike) (n := 63) (k := 23) (x := "script") (CX := L2.CX0) rfl (by decide) (by kernel_rfl) ⟨rfl, by decide, by decide⟩ ?F (fun _ _ _ _ z => z)
    intro w mg fa h Y G hmg0
    obtain ⟨K, KX, c⟩ := Y
    have hmg : mg ("law" : PySem.Str) = some (.ref fa) := by
      have e : (HandSHeadRun.topDef (OpenLaw.row PySem.Challenge.rw_pinnedtunes_k11_whole_clocks_that_strike).prog 47).name = ("law" : PySem.Str) := by kernel_rfl
      rw [← e]
      exact hmg0
    obtain ⟨fd, hb, hF⟩ := K11H.facts (P := (PySem.Challenge.rw_pinnedtunes_k11_whole_clocks_that_strike).prog) (w := w) KX G hmg c hd hl
    exact ⟨K, fd, Cr.spLaw K, KX, hb, fun H a ns hl _ hS => ⟨a, ns, rfl, hl, hS, fun _ => rfl⟩, hF⟩

theorem PySem.Challenge.cw_pinnedtunes_k11_whole_clocks_that_strike_holds : PySem.Challenge.rw_pinnedtunes_k11_whole_clocks_that_strike.Holds := by
  exact PySem.Challenge.cw_pinnedtunes_k11_whole_clocks_that_strike_holds_of K11.hd K11.hl

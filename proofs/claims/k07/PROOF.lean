import PyProof.Rows.All
import Wide.All
import OpenK.AllK
import Wide.FinOn
import HandS.Base
import HandS.Call
import HandS.List
import HandS.Comp
import HandS.Text
import HandS.Words
import HandS.WordsExc
import HandS.IsInst
import HandS.TupAny
import HandS.Deep
import HandS.Wide
import HandS.Walk
import HandS.Style
import HandS.Flow
import HandS.TupMul
import HandS.SortInts
import HandS.WordsDict
import KE.KSortedM
import PyProof.Rows.StrRev
import PyProof.SliceStr2
import HandS.Star
import HandS.ExcCtx
import HandS.Zip
import HandS.ExcOwn
import HandS.TryOnly
import HandS.RevTup
import HandS.Rev
import PyProof.ListRange
import PyProof.ListStr
import HandS.HotCalls
import HandS.ExcIs
import HandS.Defaults
import PyProof.ExcBaseAll.ValueError
import HandS.Head0
import HandS.HeadHook1
import HandS.HeadHook2
import HandS.HeadHook3
import HandS.HeadHook4
import HandS.Ends
import HandS.More
import HandS.HeadEnd
import HandS.Head1
import HandS.Head2
import KE.KStateDown
import PySem.Challenge.RW_pinnedtunes_k07_whole_strips_with_and_wi
set_option Elab.async false
set_option linter.all false
set_option maxRecDepth 100000
set_option maxHeartbeats 0
/-! The core language: data as trees, texts of defs as terms, and what they come to. -/
namespace Cr
open PySem

/-- a value with all that it holds -/
inductive D where
  | non
  | bl (b : Bool)
  | int (i : Int)
  | str (s : Str)
  | tup (ds : List D)
  | lst (ds : List D)
  | dicK (ks : List L2.Key) (ds : List D)
  | dicT (ks : List (List L2.Key)) (ds : List D)
  | fn (x : Str)
  | drw
  | ilst (is : List Int)
  deriving Inhabited

/-- an error of an own class; the value that it bears -/
structure Ex where
  cls : Str
  at_ : Option D

inductive Res (α : Type) where
  | ok (a : α) (dr : List Int)
  | exc (e : Ex) (dr : List Int)
  | bad
def Res.bind {α β : Type} (r : Res α) (f : α → List Int → Res β) : Res β := match r with
  | .ok a dr => f a dr
  | .exc e dr => .exc e dr
  | .bad => .bad
theorem Res.bind_ok {α β : Type} (a : α) (dr : List Int) (f : α → List Int → Res β) : (Res.ok a dr).bind f = f a dr := rfl
theorem Res.bind_exc {α β : Type} (e : Ex) (dr : List Int) (f : α → List Int → Res β) : (Res.exc e dr : Res α).bind f = .exc e dr := rfl
theorem Res.bind_bad {α β : Type} (f : α → List Int → Res β) : (Res.bad : Res α).bind f = .bad := rfl
def ofO {α : Type} (o : Option α) (dr : List Int) : Res α := match o with
  | some a => .ok a dr
  | none => .bad
theorem ofO_some {α : Type} (a : α) (dr : List Int) : ofO (some a) dr = .ok a dr := rfl

inductive Sl where
  | no
  | val (d : D)
  | own (d : D)
  deriving Inhabited
abbrev Env := List Sl

inductive Pat where
  | nm (i : Nat)
  | nil
  | cons (p ps : Pat)
  | tp (ps : Pat)

inductive BOp where
  | add | sub | mul | fdiv | mod | pow | shl | shr | band | bor | bxor
  deriving DecidableEq
inductive COp where
  | eq | ne | lt | le | gt | ge | is | isnot | in_ | notin
  deriving DecidableEq
/-- built-in functions -/
inductive BI where
  | len | abs | max | min | sum | all | any | int | list | tuple | sorted | str | reversed | set | dict | bool
  deriving DecidableEq
/-- methods -/
inductive MI where
  | join | get | index | count | startswith | endswith | split
  deriving DecidableEq
inductive Ty where
  | int | bool | str | tuple | list | dict
  deriving DecidableEq

inductive CE where
  | var (i : Nat)
  | non | bl (b : Bool) | int (i : Int) | str (s : Str)
  | glo (x : Str)
  | fnv (x : Str)
  | nil | cons (e es : CE) | scons (e es : CE)
  | bin (op : BOp) (a b : CE)
  | neg (a : CE)
  | cmp (op : COp) (a b : CE)
  | cmp2 (o1 o2 : COp) (a b c : CE)
  | isN (a : CE) | notN (a : CE)
  | and (es : CE) | or (es : CE) | not (a : CE)
  | ife (c a b : CE)
  | tup (es : CE) | lst (es : CE)
  | dicE (t : Bool)
  | call (f : Str) (es : CE)
  | callv (f es : CE)
  | blt (f : BI) (es : CE)
  | isi (a : CE) (t : Ty)
  | meth (m : MI) (o es : CE)
  | ix (a i : CE)
  | sl (a lo hi : CE)
  | rev (a : CE)
  | rng (es : CE) | enum (a : CE) | zip (a b : CE) | items (a : CE) | vals (a : CE) | rvd (a : CE)
  | lc (p : Pat) (it t e : CE)
  | lc2 (p : Pat) (it t : CE) (p2 : Pat) (it2 t2 e : CE)
  | dc (k : Bool) (p : Pat) (it t key e : CE)
  | dpop (i : Nat)
  | dlen (i : Nat)
  | fstr (es : CE)
  | lrev (a : CE)
  | dead

/-- a block: each constructor is one statement and what follows it -/
inductive CS where
  | done
  | ex (e : CE) (k : CS)
  | asg (p : Pat) (e : CE) (k : CS)
  | own (i : Nat) (e : CE) (k : CS)
  | par (i j : Nat) (a b : CE) (k : CS)
  | par3 (i j l : Nat) (a b c : CE) (k : CS)
  | aug (i : Nat) (op : BOp) (e : CE) (k : CS)
  | app (i : Nat) (e : CE) (k : CS)
  | ext (i : Nat) (e : CE) (k : CS)
  | setI (i : Nat) (x e : CE) (k : CS)
  | augI (i : Nat) (op : BOp) (x e : CE) (k : CS)
  | popS (p : Pat) (i : Nat) (k : CS)
  | popD (p : Pat) (i : Nat) (x : CE) (k : CS)
  | frz (i : Nat) (k : CS)
  | ifs (c : CE) (a b k : CS)
  | for_ (p : Pat) (it : CE) (body k : CS)
  | whl (c : CE) (body k : CS)
  | brk | cnt
  | ret (e : CE) | ret0
  | rse (x : Str) (e : CE)
  | tryF (x f : Str) (i : Nat) (body k : CS)
  | forD (p : Pat) (i : Nat) (body k : CS)
  | dead

/-! ### data -/
mutual
def D.py : D → Option PyData
  | .non => some .none
  | .bl b => some (.bool b)
  | .int i => some (.int i)
  | .str s => some (.str s)
  | .tup ds => (D.pys ds).map PyData.tuple
  | .lst ds => (D.pys ds).map PyData.list
  | _ => none
def D.pys : List D → Option (List PyData)
  | [] => some []
  | d :: ds => match d.py, D.pys ds with
    | some p, some ps => some (p :: ps)
    | _, _ => none
end
def D.key : D → Option L2.Key
  | .int i => some (.inl i)
  | .str s => some (.inr s)
  | _ => none
def keysOf : List D → Option (List L2.Key)
  | [] => some []
  | d :: ds => match d.key, keysOf ds with
    | some k, some ks => some (k :: ks)
    | _, _ => none
def D.ofKey : L2.Key → D
  | .inl i => .int i
  | .inr s => .str s
def intsOf : List D → Option (List Int)
  | [] => some []
  | .int i :: ds => (intsOf ds).map (i :: ·)
  | _ :: _ => none
def strsOf : List D → Option (List Str)
  | [] => some []
  | .str s :: ds => (strsOf ds).map (s :: ·)
  | _ :: _ => none
def blsOf : List D → Option (List Bool)
  | [] => some []
  | .bl b :: ds => (blsOf ds).map (b :: ·)
  | _ :: _ => none
/-- a dict's value at a key, by the keys' row -/
def lookK {κ : Type} [DecidableEq κ] (ks : List κ) (ds : List D) (k : κ) : Option D := match ks, ds with
  | k' :: ks, d :: ds => if k' = k then some d else lookK ks ds k
  | _, _ => none
def putKs {κ : Type} [DecidableEq κ] : List κ → List D → κ → D → List κ × List D
  | k' :: ks, d :: ds, k, v => if k' = k then (k' :: ks, v :: ds) else let r := putKs ks ds k v; (k' :: r.1, d :: r.2)
  | _, _, k, v => ([k], [v])
def dropKs {κ : Type} [DecidableEq κ] : List κ → List D → κ → List κ × List D
  | k' :: ks, d :: ds, k => if k' = k then (ks, ds) else let r := dropKs ks ds k; (k' :: r.1, d :: r.2)
  | _, _, _ => ([], [])

def szOk (n : Nat) : Bool := decide (n ≤ sizeLine)
def grd {α : Type} (b : Bool) (a : α) : Option α := if b = true then some a else none

def mulOk (i j : Int) : Bool := decide (-(2 ^ 64) < i ∧ i < 2 ^ 64) || decide (-(2 ^ 64) < j ∧ j < 2 ^ 64) || decide (i.natAbs.log2 + j.natAbs.log2 < 1000000)
def divOk (j : Int) : Bool := decide (0 < j) && (decide (j < 1073741824) || decide (j.natAbs.log2 < 9000))
def powOk (i j : Int) : Bool := decide (0 ≤ j ∧ j ≤ 1000000 ∧ i.natAbs < 2 ^ 64)
def repStr (s : Str) (n : Nat) : Str := ⟨(List.replicate n s.cps.toList).flatten.toArray⟩
def binD : BOp → D → D → Option D
  | .add, .int i, .int j => some (.int (i + j))
  | .add, .str x, .str y => grd (szOk (x.length + y.length)) (.str (x ++ y))
  | .add, .lst xs, .lst ys => grd (szOk (xs.length + ys.length)) (.lst (xs ++ ys))
  | .add, .tup xs, .tup ys => grd (szOk (xs.length + ys.length)) (.tup (xs ++ ys))
  | .sub, .int i, .int j => some (.int (i - j))
  | .mul, .int i, .int j => grd (mulOk i j) (.int (i * j))
  | .mul, .lst xs, .int j => grd (decide (-(2 ^ 63) ≤ j ∧ j < 2 ^ 63) && szOk (xs.length * j.toNat)) (.lst (List.replicate j.toNat xs).flatten)
  | .mul, .tup xs, .int j => grd (!xs.isEmpty && decide (2 ≤ j ∧ j ≤ 1000 ∧ xs.length ≤ 1000)) (.tup (List.replicate j.toNat xs).flatten)
  | .mul, .str s, .int j => grd (decide (-(2 ^ 63) ≤ j ∧ j < 2 ^ 63) && szOk (s.length * j.toNat)) (.str (repStr s j.toNat))
  | .fdiv, .int i, .int j => grd (divOk j) (.int (i / j))
  | .mod, .int i, .int j => grd (decide (0 < j)) (.int (i % j))
  | .pow, .int i, .int j => grd (powOk i j) (.int (i ^ j.toNat))
  | .shl, .int i, .int j => grd (powOk i j) (.int (i * 2 ^ j.toNat))
  | .shr, .int i, .int j => grd (decide (0 ≤ j)) (.int (i / 2 ^ j.toNat))
  | .band, .int i, .int j => some (.int (Builtin.bitAnd i j))
  | .bor, .int i, .int j => some (.int (Builtin.bitOr i j))
  | .bxor, .int i, .int j => some (.int (Builtin.bitXor i j))
  | _, _, _ => none
def eqD (x y : D) : Option Bool := match x.py, y.py with
  | some a, some b => grd (SeqAt.shaped a && SeqAt.shaped b) (PyData.eqv a b)
  | _, _ => none
def strLt (x y : Str) : Bool := decide (x.cps.toList < y.cps.toList)
def ltD : D → D → Option Bool
  | .int i, .int j => some (decide (i < j))
  | .str x, .str y => some (strLt x y)
  | .tup xs, .tup ys => match intsOf xs, intsOf ys with
    | some a, some b => some (HT.lexLt a b)
    | _, _ => none
  | _, _ => none
def leD : D → D → Option Bool
  | .int i, .int j => some (decide (i ≤ j))
  | .str x, .str y => some (!strLt y x)
  | _, _ => none
def gtD : D → D → Option Bool
  | .int i, .int j => some (decide (j < i))
  | .str x, .str y => some (strLt y x)
  | _, _ => none
def geD : D → D → Option Bool
  | .int i, .int j => some (decide (j ≤ i))
  | .str x, .str y => some (!strLt x y)
  | _, _ => none
def inD (x : D) : D → Option Bool
  | .str z => match x with
    | .str s => match s.cps.toList with
      | [c] => some (decide (c ∈ z.cps.toList))
      | _ => none
    | _ => none
  | .lst ds => match x.py, D.pys ds with
    | some a, some bs => grd (SeqAt.shaped a && SeqAt.shaped (.list bs)) (bs.any fun z => PyData.eqv z a)
    | _, _ => none
  | .tup ds => match x.py, D.pys ds with
    | some a, some bs => grd (SeqAt.shaped a && SeqAt.shaped (.list bs)) (bs.any fun z => PyData.eqv z a)
    | _, _ => none
  | .dicK ks ds => match x.key with
    | some k => some (lookK ks ds k).isSome
    | none => none
  | .dicT ks ds => match x with
    | .tup es => match keysOf es with
      | some k => some (lookK ks ds k).isSome
      | none => none
    | _ => none
  | _ => none
def cmpD : COp → D → D → Option Bool
  | .eq, x, y => eqD x y
  | .ne, x, y => (eqD x y).map (!·)
  | .lt, x, y => ltD x y
  | .le, x, y => leD x y
  | .gt, x, y => gtD x y
  | .ge, x, y => geD x y
  | .is, .bl a, .bl b => some (decide (a = b))
  | .isnot, .bl a, .bl b => some (!decide (a = b))
  | .in_, x, y => inD x y
  | .notin, x, y => (inD x y).map (!·)
  | _, _, _ => none
/-- truth -/
def D.tru : D → Option Bool
  | .non => some false
  | .bl b => some b
  | .int i => some (i != 0)
  | .str s => grd (szOk s.length) (s.length != 0)
  | .tup ds => some (!ds.isEmpty)
  | .lst ds => some (!ds.isEmpty)
  | _ => none
def isNone : D → Bool
  | .non => true
  | _ => false
def isiD : Ty → D → Option Bool
  | t, .non => some false
  | t, .bl _ => some (t == .bool || t == .int)
  | t, .int _ => some (t == .int)
  | t, .str _ => some (t == .str)
  | t, .tup _ => some (t == .tuple)
  | t, .lst _ => some (t == .list)
  | t, .dicK _ _ => some (t == .dict)
  | t, .dicT _ _ => some (t == .dict)
  | _, _ => none
def maxI : List Int → Option Int
  | [] => none
  | i :: is => some (is.foldl max i)
def minI : List Int → Option Int
  | [] => none
  | i :: is => some (is.foldl min i)
def insI (x : Int) : List Int → List Int
  | [] => [x]
  | y :: r => if x ≤ y then x :: y :: r else y :: insI x r
def sortI : List Int → List Int
  | [] => []
  | x :: r => insI x (sortI r)
def insS (x : List Int) : List (List Int) → List (List Int)
  | [] => [x]
  | y :: r => if HT.lexLt y x = true then y :: insS x r else x :: y :: r
def sortS : List (List Int) → List (List Int)
  | [] => []
  | x :: r => insS x (sortS r)
def tupsOf : List D → Option (List (List Int))
  | [] => some []
  | .tup es :: ds => match intsOf es, tupsOf ds with
    | some i, some is => some (i :: is)
    | _, _ => none
  | _ :: _ => none
def sortD (ds : List D) : Option (List D) := match intsOf ds with
  | some is => some ((sortI is).map .int)
  | none => none
def strLen (s : Str) : Option D := grd (szOk s.length) (.int s.length)
def bltD : BI → List D → Option D
  | .len, [.str s] => strLen s
  | .len, [.tup ds] => some (.int ds.length)
  | .len, [.lst ds] => some (.int ds.length)
  | .len, [.ilst is] => some (.int is.length)
  | .len, [.dicK ks ds] => some (.int ks.length)
  | .abs, [.int i] => some (.int (if i < 0 then -i else i))
  | .max, [.int i, .int j] => some (.int (if j > i then j else i))
  | .min, [.int i, .int j] => some (.int (if j < i then j else i))
  | .max, [.lst ds] => match intsOf ds with
    | some is => (maxI is).map .int
    | none => none
  | .min, [.lst ds] => match intsOf ds with
    | some is => (minI is).map .int
    | none => none
  | .sum, [.lst ds] => (intsOf ds).map fun is => .int is.sum
  | .all, [.lst ds] => (blsOf ds).map fun bs => .bl (bs.all id)
  | .any, [.lst ds] => (blsOf ds).map fun bs => .bl (bs.any id)
  | .int, [.int i] => some (.int i)
  | .int, [.bl b] => some (.int (if b then 1 else 0))
  | .bool, [.bl b] => some (.bl b)
  | .list, [.lst ds] => some (.lst ds)
  | .list, [.tup ds] => some (.lst ds)
  | .tuple, [.lst ds] => some (.tup ds)
  | .tuple, [.tup ds] => some (.tup ds)
  | .sorted, [.lst ds] => (sortD ds).map .lst
  | .str, [.int i] => grd (decide (i.natAbs.log2 < 1920)) (.str (Str.ofString (toString i)))
  | _, _ => none
def cut {α : Type} (xs : List α) (lo hi : Option Int) : List α := (xs.drop (HT.sIx xs.length 0 lo)).take (HT.sIx xs.length xs.length hi - HT.sIx xs.length 0 lo)
def ixD : D → D → Option D
  | .tup ds, .int i => L2.atI ds i
  | .lst ds, .int i => L2.atI ds i
  | .ilst is, .int i => (L2.atI is i).map .int
  | .str s, .int i => match szOk s.length, L2.atI s.cps.toList i with
    | true, some c => some (.str ⟨#[c]⟩)
    | _, _ => none
  | .dicK ks ds, d => match d.key with
    | some k => lookK ks ds k
    | none => none
  | .dicT ks ds, .tup es => match keysOf es with
    | some k => lookK ks ds k
    | none => none
  | _, _ => none
def slD : D → Option Int → Option Int → Option D
  | .tup ds, lo, hi => some (.tup (cut ds lo hi))
  | .lst ds, lo, hi => some (.lst (cut ds lo hi))
  | .str s, lo, hi => grd (szOk s.length) (.str ⟨(cut s.cps.toList lo hi).toArray⟩)
  | _, _, _ => none
def revD : D → Option D
  | .lst ds => some (.lst ds.reverse)
  | .str s => grd (szOk s.length) (.str ⟨s.cps.toList.reverse.toArray⟩)
  | _ => none
/-- what all glued come to -/
def joinLen (sep : Nat) : List Str → Nat
  | [] => 0
  | [s] => s.length
  | s :: r => s.length + sep + joinLen sep r
def joinS (sep : Str) : List Str → List Nat
  | [] => []
  | [s] => s.cps.toList
  | s :: r => s.cps.toList ++ sep.cps.toList ++ joinS sep r
def methD : MI → D → List D → Option D
  | .join, .str sep, [.lst ds] => match strsOf ds with
    | some ss => grd (decide ((ss.map (·.length)).sum + ss.length * sep.length ≤ 16777216)) (.str (Str.join sep ss))
    | none => none
  | .get, .dicK ks ds, [k, d] => match k.key with
    | some k => some ((lookK ks ds k).getD d)
    | none => none
  | .get, .dicT ks ds, [.tup es, d] => match keysOf es with
    | some k => some ((lookK ks ds k).getD d)
    | none => none
  | _, _, _ => none
/-- the receiver's kind -/
def rcv : MI → D → Option D
  | .join, .str s => some (.str s)
  | .get, .dicK ks ds => some (.dicK ks ds)
  | .get, .dicT ks ds => some (.dicT ks ds)
  | _, _ => none
/-- what a for walks -/
def iterD : D → Option (List D)
  | .tup ds => some ds
  | .lst ds => some ds
  | .str s => grd (szOk s.length) (s.cps.toList.map fun c => .str ⟨#[c]⟩)
  | .ilst is => some (is.map .int)
  | _ => none
def in62 (i : Int) : Bool := decide (-(2 ^ 62) ≤ i ∧ i < 2 ^ 62)
def rngL (i : Int) (n : Nat) (c : Int) : List D := (List.range n).map fun k => D.int (i + (k : Nat) * c)
def rngD : List D → Option (List D)
  | [.int j] => grd (in62 j && szOk j.toNat) (rngL 0 j.toNat 1)
  | [.int i, .int j] => grd (in62 i && in62 j && szOk (j - i).toNat) (rngL i (j - i).toNat 1)
  | [.int i, .int j, .int c] => grd (decide (c ≠ 0) && decide (c.natAbs < 1073741824) && Builtin.Range.small i j c && szOk (Builtin.Range.rangeSize i j c).toNat) (rngL i (Builtin.Range.rangeSize i j c).toNat c)
  | _ => none
def enumL : Nat → List D → List D
  | _, [] => []
  | k, d :: ds => .tup [.int (k : Nat), d] :: enumL (k + 1) ds
def zipL : List D → List D → List D
  | x :: xs, y :: ys => .tup [x, y] :: zipL xs ys
  | _, _ => []
def itemsL : List L2.Key → List D → List D
  | k :: ks, d :: ds => .tup [D.ofKey k, d] :: itemsL ks ds
  | _, _ => []
def itemsT : List (List L2.Key) → List D → List D
  | k :: ks, d :: ds => .tup [.tup (k.map D.ofKey), d] :: itemsT ks ds
  | _, _ => []
def itemsD : D → Option (List D)
  | .dicK ks ds => some (itemsL ks ds)
  | .dicT ks ds => some (itemsT ks ds)
  | _ => none
def valsD : D → Option (List D)
  | .dicK _ ds => some ds
  | .dicT _ ds => some ds
  | _ => none
def fmtD : D → Option Str
  | .str s => grd (szOk s.length) s
  | .int i => grd (decide (i.natAbs.log2 < 1920)) (Str.ofString (toString i))
  | _ => none

/-! ### places -/
def get (env : Env) (i : Nat) : Sl := env.getD i .no
/-- a name as it may be handed on; as it may be looked at -/
def varS : Sl → Option D
  | .val d => some d
  | _ => none
def varP : Sl → Option D
  | .val d => some d
  | .own d => some d
  | .no => none
def asgP : Pat → D → Env → Option Env
  | .nm i, d, env => if i < env.length then some (env.set i (.val d)) else none
  | .nil, .lst [], env => some env
  | .cons p ps, .lst (d :: ds), env => (asgP p d env).bind fun env => asgP ps (.lst ds) env
  | .tp ps, .tup ds, env => asgP ps (.lst ds) env
  | .tp ps, .lst ds, env => asgP ps (.lst ds) env
  | _, _, _ => none
def slots : Pat → List Nat
  | .nm i => [i]
  | .nil => []
  | .cons p ps => slots p ++ slots ps
  | .tp ps => slots ps
def wipeE (env : Env) : List Nat → Env
  | [] => env
  | i :: is => (wipeE env is).set i .no

structure Cfg where
  fns : Str → Option (List D → List Int → Res D)
  cons : Str → Option D
  fuel : Nat
  sub : Str → Str → Option Bool
  flg : Str → Str → Option D

/-- one item after the other: b the block (a test, what is kept) -/
def lcL (b : D → List Int → Res (Option D)) : List D → List Int → Res (List D)
  | [], dr => .ok [] dr
  | d :: ds, dr => (b d dr).bind fun o dr => (lcL b ds dr).bind fun r dr => .ok (match o with
    | some y => y :: r
    | none => r) dr
/-- no error leaves a comprehension -/
def noX {α : Type} : Res α → Res α
  | .ok a dr => .ok a dr
  | _ => .bad
def lcL2 (b : D → List Int → Res (List D)) : List D → List Int → Res (List D)
  | [], dr => .ok [] dr
  | d :: ds, dr => (b d dr).bind fun o dr => (lcL2 b ds dr).bind fun r dr => .ok (o ++ r) dr

def asO (o : Option Int) : D → Option (Option Int)
  | .int i => some (some i)
  | _ => none

mutual
def evE (G : Cfg) : CE → Bool → Env → List Int → Res D
  | .var i, pk, env, dr => ofO (if pk then varP (get env i) else varS (get env i)) dr
  | .non, _, _, dr => .ok .non dr
  | .bl b, _, _, dr => .ok (.bl b) dr
  | .int i, _, _, dr => .ok (.int i) dr
  | .str s, _, _, dr => .ok (.str s) dr
  | .glo x, _, _, dr => ofO (G.cons x) dr
  | .fnv x, _, _, dr => .ok (.fn x) dr
  | .bin op a b, _, env, dr => (evE G a true env dr).bind fun x dr => (evE G b true env dr).bind fun y dr => ofO (binD op x y) dr
  | .neg a, _, env, dr => (evE G a true env dr).bind fun x dr => ofO (match x with
    | .int i => some (.int (-i))
    | _ => none) dr
  | .cmp op a b, _, env, dr => (evE G a true env dr).bind fun x dr => (evE G b true env dr).bind fun y dr => ofO ((cmpD op x y).map .bl) dr
  | .cmp2 o1 o2 a b c, _, env, dr => (evE G a true env dr).bind fun x dr => (evE G b true env dr).bind fun y dr => (ofO (cmpD o1 x y) dr).bind fun k dr =>
    match k with
    | true => (evE G c true env dr).bind fun z dr => ofO ((cmpD o2 y z).map .bl) dr
    | false => .ok (.bl false) dr
  | .isN a, _, env, dr => (evE G a true env dr).bind fun x dr => .ok (.bl (isNone x)) dr
  | .notN a, _, env, dr => (evE G a true env dr).bind fun x dr => .ok (.bl (!isNone x)) dr
  | .and es, _, env, dr => evAnd G es env dr
  | .or es, _, env, dr => evOr G es env dr
  | .not a, _, env, dr => (evE G a true env dr).bind fun x dr => ofO (match x with
    | .bl b => some (.bl (!b))
    | _ => none) dr
  | .ife c a b, _, env, dr => (evT G c env dr).bind fun t dr => match t with
    | true => evE G a false env dr
    | false => evE G b false env dr
  | .tup es, _, env, dr => (evL G es env dr).bind fun ds dr => ofO (grd (szOk ds.length) (.tup ds)) dr
  | .lst es, _, env, dr => (evL G es env dr).bind fun ds dr => ofO (grd (szOk ds.length) (.lst ds)) dr
  | .dicE t, _, _, dr => .ok (if t then .dicT [] [] else .dicK [] []) dr
  | .call f es, _, env, dr => (evL G es env dr).bind fun ds dr => match G.fns f with
    | some g => g ds dr
    | none => .bad
  | .callv f es, _, env, dr => (evE G f true env dr).bind fun x dr => (evL G es env dr).bind fun ds dr => match x with
    | .fn f => (match G.fns f with
      | some g => g ds dr
      | none => .bad)
    | _ => .bad
  | .blt f es, _, env, dr => (evLp G es env dr).bind fun ds dr => ofO (bltD f ds) dr
  | .isi a t, _, env, dr => (evE G a true env dr).bind fun x dr => ofO ((isiD t x).map .bl) dr
  | .meth m o es, _, env, dr => (evE G o true env dr).bind fun x dr => (ofO (rcv m x) dr).bind fun x dr => (evL G es env dr).bind fun ds dr => ofO (methD m x ds) dr
  | .ix a i, _, env, dr => (evE G a true env dr).bind fun x dr => (evE G i true env dr).bind fun y dr => ofO (ixD x y) dr
  | .sl a lo hi, _, env, dr => (evE G a true env dr).bind fun x dr => (evO G lo env dr).bind fun l dr => (evO G hi env dr).bind fun h dr => ofO (slD x l h) dr
  | .rev a, _, env, dr => (evE G a true env dr).bind fun x dr => ofO (revD x) dr
  | .lc p it t e, _, env, dr => (evI G it true env dr).bind fun xs dr => noX ((lcL (fun d dr => (ofO (asgP p d (wipeE env (slots p))) dr).bind fun env dr =>
      (evTs G t env dr).bind fun k dr => match k with
      | true => (evE G e false env dr).bind fun y dr => .ok (some y) dr
      | false => .ok none dr) xs dr).bind fun ys dr => .ok (.lst ys) dr)
  | .lc2 p it t p2 it2 t2 e, _, env, dr => (evI G it true env dr).bind fun xs dr => noX ((lcL2 (fun d dr => (ofO (asgP p d (wipeE env (slots p ++ slots p2))) dr).bind fun env dr =>
      (evTs G t env dr).bind fun k dr => match k with
      | true => (evI G it2 true env dr).bind fun ys dr => lcL (fun d dr => (ofO (asgP p2 d (wipeE env (slots p2))) dr).bind fun env dr =>
        (evTs G t2 env dr).bind fun k dr => match k with
        | true => (evE G e false env dr).bind fun y dr => .ok (some y) dr
        | false => .ok none dr) ys dr
      | false => .ok [] dr) xs dr).bind fun ys dr => ofO (grd (szOk ys.length) (.lst ys)) dr)
  | .dc k p it t key e, _, env, dr => .bad
  | .dpop i, _, env, dr => match get env i, dr with
    | .val .drw, x :: r => .ok (.int x) r
    | _, _ => .bad
  | .dlen i, _, env, dr => match get env i with
    | .val .drw => .ok (.int dr.length) dr
    | _ => .bad
  | .lrev a, _, env, dr => (evE G a true env dr).bind fun x dr => ofO (match x with
    | .lst ds => some (.lst ds.reverse)
    | _ => none) dr
  | .fstr es, _, env, dr => (evL G es env dr).bind fun ds dr => .bad
  | _, _, _, _ => .bad
/-- a test -/
def evT (G : Cfg) : CE → Env → List Int → Res Bool
  | .not a, env, dr => (evT G a env dr).bind fun b dr => .ok (!b) dr
  | .and es, env, dr => evTand G es env dr
  | .or es, env, dr => evTor G es env dr
  | .cmp op a b, env, dr => (evE G a true env dr).bind fun x dr => (evE G b true env dr).bind fun y dr => ofO (cmpD op x y) dr
  | .cmp2 o1 o2 a b c, env, dr => (evE G a true env dr).bind fun x dr => (evE G b true env dr).bind fun y dr => (ofO (cmpD o1 x y) dr).bind fun k dr =>
    match k with
    | true => (evE G c true env dr).bind fun z dr => ofO (cmpD o2 y z) dr
    | false => .ok false dr
  | .isN a, env, dr => (evE G a true env dr).bind fun x dr => .ok (isNone x) dr
  | .notN a, env, dr => (evE G a true env dr).bind fun x dr => .ok (!isNone x) dr
  | .call f es, env, dr => (evL G es env dr).bind fun ds dr => match G.fns f with
    | some g => (g ds dr).bind fun x dr => ofO x.tru dr
    | none => .bad
  | .blt f es, env, dr => (evLp G es env dr).bind fun ds dr => (ofO (bltD f ds) dr).bind fun x dr => ofO x.tru dr
  | .isi a t, env, dr => (evE G a true env dr).bind fun x dr => ofO (isiD t x) dr
  | .var i, env, dr => (ofO (varP (get env i)) dr).bind fun x dr => ofO x.tru dr
  | .ix a i, env, dr => (evE G a true env dr).bind fun x dr => (evE G i true env dr).bind fun y dr => (ofO (ixD x y) dr).bind fun x dr => ofO x.tru dr
  | _, _, _ => .bad
def evTs (G : Cfg) : CE → Env → List Int → Res Bool
  | .nil, _, dr => .ok true dr
  | .cons c .nil, env, dr => evT G c env dr
  | _, _, _ => .bad
def evTand (G : Cfg) : CE → Env → List Int → Res Bool
  | .cons c .nil, env, dr => evT G c env dr
  | .cons c cs, env, dr => (evT G c env dr).bind fun b dr => match b with
    | true => evTand G cs env dr
    | false => .ok false dr
  | _, _, _ => .bad
def evTor (G : Cfg) : CE → Env → List Int → Res Bool
  | .cons c .nil, env, dr => evT G c env dr
  | .cons c cs, env, dr => (evT G c env dr).bind fun b dr => match b with
    | true => .ok true dr
    | false => evTor G cs env dr
  | _, _, _ => .bad
/-- and, or as values: all but the last a truth value -/
def evAnd (G : Cfg) : CE → Env → List Int → Res D
  | .cons c .nil, env, dr => evE G c false env dr
  | .cons c cs, env, dr => (evE G c true env dr).bind fun x dr => match x with
    | .bl true => evAnd G cs env dr
    | .bl false => .ok (.bl false) dr
    | _ => .bad
  | _, _, _ => .bad
def evOr (G : Cfg) : CE → Env → List Int → Res D
  | .cons c .nil, env, dr => evE G c false env dr
  | .cons c cs, env, dr => (evE G c true env dr).bind fun x dr => match x with
    | .bl true => .ok (.bl true) dr
    | .bl false => evOr G cs env dr
    | _ => .bad
  | _, _, _ => .bad
def evL (G : Cfg) : CE → Env → List Int → Res (List D)
  | .nil, _, dr => .ok [] dr
  | .cons e es, env, dr => (evE G e false env dr).bind fun d dr => (evL G es env dr).bind fun ds dr => .ok (d :: ds) dr
  | .scons e es, env, dr => (evE G e true env dr).bind fun d dr => (ofO (iterD d) dr).bind fun xs dr => (evL G es env dr).bind fun ds dr => .ok (xs ++ ds) dr
  | _, _, _ => .bad
def evLp (G : Cfg) : CE → Env → List Int → Res (List D)
  | .nil, _, dr => .ok [] dr
  | .cons e es, env, dr => (evE G e true env dr).bind fun d dr => (evLp G es env dr).bind fun ds dr => .ok (d :: ds) dr
  | _, _, _ => .bad
def evO (G : Cfg) : CE → Env → List Int → Res (Option Int)
  | .nil, _, dr => .ok none dr
  | .cons e .nil, env, dr => (evE G e true env dr).bind fun d dr => ofO (match d with
    | .int i => some (some i)
    | _ => none) dr
  | _, _, _ => .bad
/-- what is walked -/
def evI (G : Cfg) : CE → Bool → Env → List Int → Res (List D)
  | .rng es, _, env, dr => (evLp G es env dr).bind fun ds dr => ofO (rngD ds) dr
  | .enum a, pk, env, dr => (evE G a pk env dr).bind fun d dr => ofO ((iterD d).map (enumL 0)) dr
  | .zip a b, pk, env, dr => (evE G a pk env dr).bind fun d dr => (evE G b pk env dr).bind fun e dr => ofO (match iterD d, iterD e with
    | some xs, some ys => some (zipL xs ys)
    | _, _ => none) dr
  | .items a, pk, env, dr => (evE G a pk env dr).bind fun d dr => ofO (itemsD d) dr
  | .vals a, pk, env, dr => (evE G a pk env dr).bind fun d dr => ofO (valsD d) dr
  | .cons e .nil, pk, env, dr => (evE G e pk env dr).bind fun d dr => ofO (iterD d) dr
  | _, _, _, _ => .bad
end

inductive Fl where
  | nx (env : Env)
  | rt (d : D)
  | bk (env : Env)
  | ct (env : Env)

/-- a loop's turns -/
def forL (b : D → Env → List Int → Res Fl) : List D → Env → List Int → Res Fl
  | [], env, dr => .ok (.nx env) dr
  | d :: ds, env, dr => (b d env dr).bind fun f dr => match f with
    | .nx env => forL b ds env dr
    | .ct env => forL b ds env dr
    | .bk env => .ok (.nx env) dr
    | .rt d => .ok (.rt d) dr
def whlL (c : Env → List Int → Res Bool) (b : Env → List Int → Res Fl) : Nat → Env → List Int → Res Fl
  | 0, _, _ => .bad
  | n + 1, env, dr => (c env dr).bind fun t dr => match t with
    | false => .ok (.nx env) dr
    | true => (b env dr).bind fun f dr => match f with
      | .nx env => whlL c b n env dr
      | .ct env => whlL c b n env dr
      | .bk env => .ok (.nx env) dr
      | .rt d => .ok (.rt d) dr
def setSl (env : Env) (i : Nat) (s : Sl) : Option Env := if i < env.length then some (env.set i s) else none
/-- a new object, as a slot's own -/
def freshD : D → Option D
  | .lst ds => some (.lst ds)
  | .dicK ks ds => some (.dicK ks ds)
  | .dicT ks ds => some (.dicT ks ds)
  | _ => none
def appS : Sl → D → Option Sl
  | .own (.lst ds), d => grd (decide (ds.length < sizeLine)) (.own (.lst (ds ++ [d])))
  | _, _ => none
def extS : Sl → D → Option Sl
  | .own (.lst ds), .lst es => grd (szOk (ds.length + es.length)) (.own (.lst (ds ++ es)))
  | _, _ => none
def setS : Sl → D → D → Option Sl
  | .own (.lst ds), .int i, d => (L2.ixN ds.length i).map fun j => .own (.lst (ds.set j d))
  | .own (.dicK ks ds), k, d => match k.key with
    | some k => grd (decide (ks.length < sizeLine)) (let r := putKs ks ds k d; .own (.dicK r.1 r.2))
    | none => none
  | .own (.dicT ks ds), .tup es, d => match keysOf es with
    | some k => grd (decide (ks.length < sizeLine)) (let r := putKs ks ds k d; .own (.dicT r.1 r.2))
    | none => none
  | _, _, _ => none
def slD? : Sl → Option D
  | .own d => some d
  | _ => none
def popS : Sl → Option (D × Sl)
  | .own (.lst ds) => match ds.getLast? with
    | some d => some (d, .own (.lst ds.dropLast))
    | none => none
  | _ => none
def popDS : Sl → D → Option (D × Sl)
  | .own (.dicK ks ds), k => match k.key with
    | some k => (lookK ks ds k).map fun v => let r := dropKs ks ds k; (v, .own (.dicK r.1 r.2))
    | none => none
  | _, _ => none
def frzS : Sl → Option Sl
  | .own d => some (.val d)
  | .val d => some (.val d)
  | _ => none
def evB (G : Cfg) : CS → Env → List Int → Res Fl
  | .done, env, dr => .ok (.nx env) dr
  | .ex e k, env, dr => (evE G e false env dr).bind fun _ dr => evB G k env dr
  | .asg p e k, env, dr => (evE G e false env dr).bind fun d dr => (ofO (asgP p d env) dr).bind fun env dr => evB G k env dr
  | .own i e k, env, dr => (evE G e false env dr).bind fun d dr => (ofO ((freshD d).bind fun d => setSl env i (.own d)) dr).bind fun env dr => evB G k env dr
  | .par i j a b k, env, dr => (evE G a false env dr).bind fun x dr => (evE G b false env dr).bind fun y dr => (ofO ((setSl env i (.val x)).bind fun env => setSl env j (.val y)) dr).bind fun env dr => evB G k env dr
  | .par3 i j l a b c k, env, dr => (evE G a false env dr).bind fun x dr => (evE G b false env dr).bind fun y dr => (evE G c false env dr).bind fun z dr =>
    (ofO ((setSl env i (.val x)).bind fun env => (setSl env j (.val y)).bind fun env => setSl env l (.val z)) dr).bind fun env dr => evB G k env dr
  | .aug i op e k, env, dr => (ofO (varS (get env i)) dr).bind fun x dr => (evE G e false env dr).bind fun y dr => (ofO ((binD op x y).bind fun z => setSl env i (.val z)) dr).bind fun env dr => evB G k env dr
  | .app i e k, env, dr => match get env i with
    | .own (.lst ds) => (evE G e false env dr).bind fun d dr => (ofO (grd (decide (ds.length < sizeLine)) (env.set i (.own (.lst (ds ++ [d]))))) dr).bind fun env dr => evB G k env dr
    | _ => .bad
  | .ext i e k, env, dr => (evE G e false env dr).bind fun d dr => (ofO ((extS (get env i) d).bind (setSl env i)) dr).bind fun env dr => evB G k env dr
  | .setI i x e k, env, dr => (evE G e false env dr).bind fun d dr => (evE G x true env dr).bind fun y dr => (ofO ((setS (get env i) y d).bind (setSl env i)) dr).bind fun env dr => evB G k env dr
  | .augI i op x e k, env, dr => (evE G x true env dr).bind fun y dr => (ofO ((slD? (get env i)).bind fun o => ixD o y) dr).bind fun u dr => (evE G e false env dr).bind fun w dr =>
    (ofO ((binD op u w).bind fun d => (setS (get env i) y d).bind (setSl env i)) dr).bind fun env dr => evB G k env dr
  | .popS p i k, env, dr => (ofO (popS (get env i)) dr).bind fun q dr => (ofO ((setSl env i q.2).bind fun env => asgP p q.1 env) dr).bind fun env dr => evB G k env dr
  | .popD p i x k, env, dr => (evE G x true env dr).bind fun y dr => (ofO (popDS (get env i) y) dr).bind fun q dr => (ofO ((setSl env i q.2).bind fun env => asgP p q.1 env) dr).bind fun env dr => evB G k env dr
  | .frz i k, env, dr => (ofO ((frzS (get env i)).bind (setSl env i)) dr).bind fun env dr => evB G k env dr
  | .ifs c a b k, env, dr => (evT G c env dr).bind fun t dr => (match t with
    | true => evB G a env dr
    | false => evB G b env dr).bind fun f dr => match f with
      | .nx env => evB G k env dr
      | f => .ok f dr
  | .for_ p it body k, env, dr => (evI G it false env dr).bind fun xs dr => (forL (fun d env dr => (ofO (asgP p d env) dr).bind fun env dr => evB G body env dr) xs env dr).bind fun f dr => match f with
      | .nx env => evB G k env dr
      | f => .ok f dr
  | .whl c body k, env, dr => (whlL (evT G c) (evB G body) G.fuel env dr).bind fun f dr => match f with
      | .nx env => evB G k env dr
      | f => .ok f dr
  | .brk, env, dr => .ok (.bk env) dr
  | .cnt, env, dr => .ok (.ct env) dr
  | .ret e, env, dr => (evE G e false env dr).bind fun d dr => .ok (.rt d) dr
  | .ret0, _, dr => .ok (.rt .non) dr
  | .rse x .nil, _, dr => .exc ⟨x, none⟩ dr
  | .rse x (.cons e .nil), env, dr => (evE G e false env dr).bind fun d dr => .exc ⟨x, some d⟩ dr
  | .rse _ _, _, _ => .bad
  | .tryF x f _ body k, env, dr => match evB G body env dr with
    | .bad => .bad
    | .exc e dr => match G.sub e.cls x with
      | some true => if e.at_.isNone then (ofO (G.flg f e.cls) dr).bind fun d dr => .ok (.rt d) dr else .bad
      | some false => .exc e dr
      | none => .bad
    | .ok f dr => match f with
      | .nx env => evB G k env dr
      | f => .ok f dr
  | .forD p i body k, env, dr => match get env i with
    | .val .drw => (forL (fun d env dr => ((ofO (asgP p d env) dr).bind fun env dr => evB G body env dr).bind fun f dr2 => if dr2 = dr then .ok f dr2 else .bad) (dr.reverse.map .int) env dr).bind fun f dr => match f with
      | .nx env => evB G k env dr
      | f => .ok f dr
    | _ => .bad
  | .dead, _, _ => .bad
/-- a def called: n names -/
def callD (G : Cfg) (n : Nat) (body : CS) (args : List D) (dr : List Int) : Res D :=
  if args.length ≤ n then (evB G body (args.map .val ++ List.replicate (n - args.length) .no) dr).bind fun f dr => match f with
    | .rt d => .ok d dr
    | .nx _ => .ok .non dr
    | _ => .bad
  else .bad
end Cr
/-! How the trees stand in the heap. -/
namespace Cr
open PySem PySem.Spec PyProof.Rows L2

/-- what the trees lean on: the written part, the module's names, where the row of draws stands -/
structure Gd where
  K : PySem.W.Frag
  mg : Str → Option Value
  ad : Option Addr

mutual
def Rep (g : Gd) (F : Hp) : D → V → Prop
  | .non, v => v = .non
  | .bl b, v => v = .bl b
  | .int i, v => v = .int i
  | .str s, v => v = .str s
  | .tup ds, v => ds.length ≤ sizeLine ∧ ∃ a vs, v = .ref a ∧ F a = some (.tup vs) ∧ Reps g F ds vs
  | .lst ds, v => ds.length ≤ sizeLine ∧ ∃ a vs, v = .ref a ∧ F a = some (.lst vs) ∧ Reps g F ds vs
  | .dicK ks ds, v => ks.Nodup ∧ ks.length ≤ sizeLine ∧ ks.length = ds.length ∧ ∃ a vs, v = .ref a ∧ F a = some (.dK (ks.zip vs)) ∧ Reps g F ds vs
  | .dicT ks ds, v => ks.Nodup ∧ ks.length ≤ sizeLine ∧ ks.length = ds.length ∧ ∃ a vs, v = .ref a ∧ F a = some (.dT (ks.zip vs)) ∧ Reps g F ds vs
  | .fn x, v => ∃ a, v = .ref a ∧ g.mg x = some (.ref a)
  | .drw, v => ∃ a, g.ad = some a ∧ v = .ref a
  | .ilst is, v => is.length ≤ sizeLine ∧ ∃ a, v = .ref a ∧ SqL g.K F a (is.map V.int)
def Reps (g : Gd) (F : Hp) : List D → List V → Prop
  | [], vs => vs = []
  | d :: ds, vs => ∃ w ws, vs = w :: ws ∧ Rep g F d w ∧ Reps g F ds ws
end

/-- F's objects stand in H -/
abbrev Sub (F H : Hp) : Prop := Same F H

theorem sqL_sub {K : PySem.W.Frag} {F H : Hp} {a : Addr} {xs : List V} (e : Sub F H) (h : SqL K F a xs) : SqL K H a xs := by
  rcases h with (h | ⟨o, h⟩) | h
  · exact .inl (.inl (e _ _ h))
  · exact .inl (.inr ⟨o, e _ _ h⟩)
  · exact .inr h
theorem sqT_sub {K : PySem.W.Frag} {F H : Hp} {a : Addr} {xs : List V} (e : Sub F H) (h : SqT K F a xs) : SqT K H a xs := by
  rcases h with (h | ⟨o, h⟩) | h
  · exact .inl (.inl (e _ _ h))
  · exact .inl (.inr ⟨o, e _ _ h⟩)
  · exact .inr h

mutual
theorem Rep.mono {g : Gd} {F F' : Hp} (e : Sub F F') : ∀ (d : D) (v : V), Rep g F d v → Rep g F' d v
  | .non, _, h => h
  | .bl _, _, h => h
  | .int _, _, h => h
  | .str _, _, h => h
  | .tup ds, v, h => by
    obtain ⟨l, a, vs, r, s, t⟩ := h
    exact ⟨l, a, vs, r, e _ _ s, Reps.mono e ds vs t⟩
  | .lst ds, v, h => by
    obtain ⟨l, a, vs, r, s, t⟩ := h
    exact ⟨l, a, vs, r, e _ _ s, Reps.mono e ds vs t⟩
  | .dicK ks ds, v, h => by
    obtain ⟨n, l, l2, a, vs, r, s, t⟩ := h
    exact ⟨n, l, l2, a, vs, r, e _ _ s, Reps.mono e ds vs t⟩
  | .dicT ks ds, v, h => by
    obtain ⟨n, l, l2, a, vs, r, s, t⟩ := h
    exact ⟨n, l, l2, a, vs, r, e _ _ s, Reps.mono e ds vs t⟩
  | .fn _, _, h => h
  | .drw, _, h => h
  | .ilst is, v, h => by
    obtain ⟨l, a, e1, h1⟩ := h
    exact ⟨l, a, e1, sqL_sub e h1⟩
theorem Reps.mono {g : Gd} {F F' : Hp} (e : Sub F F') : ∀ (ds : List D) (vs : List V), Reps g F ds vs → Reps g F' ds vs
  | [], _, h => h
  | d :: ds, vs, h => by
    obtain ⟨w, ws, r, s, t⟩ := h
    exact ⟨w, ws, r, Rep.mono e d w s, Reps.mono e ds ws t⟩
end
section
variable {g : Gd} {F H : Hp}
theorem Reps.nil : Reps g F [] [] := rfl
theorem Reps.cons {d : D} {ds : List D} {v : V} {vs : List V} (h : Rep g F d v) (t : Reps g F ds vs) : Reps g F (d :: ds) (v :: vs) := ⟨v, vs, rfl, h, t⟩
theorem Reps.len : ∀ {ds : List D} {vs : List V}, Reps g F ds vs → vs.length = ds.length
  | [], _, h => by cases (show _ = [] from h); rfl
  | d :: ds, _, h => by
    obtain ⟨w, ws, rfl, _, t⟩ := h
    simp only [List.length_cons, Reps.len t]
theorem Reps.get : ∀ {ds : List D} {vs : List V} {i : Nat} {d : D}, Reps g F ds vs → ds[i]? = some d → ∃ v, vs[i]? = some v ∧ Rep g F d v
  | [], _, i, _, _, e => by simp at e
  | d :: ds, _, 0, d', h, e => by
    obtain ⟨w, ws, rfl, r, t⟩ := h
    have e' : d = d' := Option.some.inj e
    subst e'
    exact ⟨w, rfl, r⟩
  | d :: ds, _, i + 1, d', h, e => by
    obtain ⟨w, ws, rfl, r, t⟩ := h
    obtain ⟨v, e1, r1⟩ := Reps.get (i := i) t (by simpa using e)
    exact ⟨v, by simpa using e1, r1⟩
theorem Reps.get2 : ∀ {ds : List D} {vs : List V} {i : Nat} {v : V}, Reps g F ds vs → vs[i]? = some v → ∃ d, ds[i]? = some d ∧ Rep g F d v := by
  intro ds vs i v h e
  have hl := h.len
  have hi : i < vs.length := (List.getElem?_eq_some_iff.mp e).1
  have : i < ds.length := by omega
  obtain ⟨v', e', r⟩ := h.get (List.getElem?_eq_getElem this)
  rw [e] at e'
  cases e'
  exact ⟨_, List.getElem?_eq_getElem this, r⟩
theorem Reps.app : ∀ {ds es : List D} {vs ws : List V}, Reps g F ds vs → Reps g F es ws → Reps g F (ds ++ es) (vs ++ ws)
  | [], _, _, _, h, t => by cases (show _ = [] from h); exact t
  | d :: ds, _, _, _, h, t => by
    obtain ⟨w, ws, rfl, r, s⟩ := h
    exact ⟨w, _, rfl, r, Reps.app s t⟩
theorem Reps.snoc {ds : List D} {vs : List V} {d : D} {v : V} (h : Reps g F ds vs) (r : Rep g F d v) : Reps g F (ds ++ [d]) (vs ++ [v]) := h.app (Reps.cons r Reps.nil)
theorem Reps.take : ∀ {ds : List D} {vs : List V} (n : Nat), Reps g F ds vs → Reps g F (ds.take n) (vs.take n)
  | [], _, n, h => by cases (show _ = [] from h); simp; rfl
  | d :: ds, _, 0, h => by simp; rfl
  | d :: ds, _, n + 1, h => by
    obtain ⟨w, ws, rfl, r, s⟩ := h
    simp only [List.take_succ_cons]
    exact Reps.cons r (Reps.take n s)
theorem Reps.drop : ∀ {ds : List D} {vs : List V} (n : Nat), Reps g F ds vs → Reps g F (ds.drop n) (vs.drop n)
  | [], _, n, h => by cases (show _ = [] from h); simp; rfl
  | d :: ds, _, 0, h => h
  | d :: ds, _, n + 1, h => by
    obtain ⟨w, ws, rfl, r, s⟩ := h
    simp only [List.drop_succ_cons]
    exact Reps.drop n s
theorem Reps.rev : ∀ {ds : List D} {vs : List V}, Reps g F ds vs → Reps g F ds.reverse vs.reverse
  | [], _, h => by cases (show _ = [] from h); simp; rfl
  | d :: ds, _, h => by
    obtain ⟨w, ws, rfl, r, s⟩ := h
    simp only [List.reverse_cons]
    exact Reps.snoc (Reps.rev s) r
theorem Reps.set : ∀ {ds : List D} {vs : List V} {d : D} {v : V} (j : Nat), Reps g F ds vs → Rep g F d v → Reps g F (ds.set j d) (vs.set j v)
  | [], _, _, _, j, h, _ => by cases (show _ = [] from h); simp; rfl
  | x :: ds, _, _, _, 0, h, r => by
    obtain ⟨w, ws, rfl, _, s⟩ := h
    exact Reps.cons r s
  | x :: ds, _, _, _, j + 1, h, r => by
    obtain ⟨w, ws, rfl, q, s⟩ := h
    simp only [List.set_cons_succ]
    exact Reps.cons q (Reps.set j s r)
theorem Reps.rep {ds : List D} {vs : List V} (h : Reps g F ds vs) : ∀ n : Nat, Reps g F (List.replicate n ds).flatten (List.replicate n vs).flatten
  | 0 => by simp; rfl
  | n + 1 => by
    rw [List.replicate_succ, List.replicate_succ, List.flatten_cons, List.flatten_cons]
    exact h.app (Reps.rep h n)
theorem Reps.ints : ∀ {ds : List D} {vs : List V} {is : List Int}, Reps g F ds vs → intsOf ds = some is → vs = is.map V.int
  | [], _, is, h, e => by
    cases (show _ = [] from h)
    cases (show some [] = some is from e)
    rfl
  | .int i :: ds, _, is, h, e => by
    obtain ⟨w, ws, rfl, r, s⟩ := h
    cases (show w = V.int i from r)
    have e' : (intsOf ds).map (i :: ·) = some is := e
    cases q : intsOf ds with
    | none => rw [q] at e'; cases e'
    | some js =>
      rw [q] at e'
      cases e'
      rw [Reps.ints s q]
      rfl
  | .non :: _, _, _, _, e => by cases e
  | .bl _ :: _, _, _, _, e => by cases e
  | .str _ :: _, _, _, _, e => by cases e
  | .tup _ :: _, _, _, _, e => by cases e
  | .lst _ :: _, _, _, _, e => by cases e
  | .dicK _ _ :: _, _, _, _, e => by cases e
  | .dicT _ _ :: _, _, _, _, e => by cases e
  | .fn _ :: _, _, _, _, e => by cases e
  | .drw :: _, _, _, _, e => by cases e
  | .ilst _ :: _, _, _, _, e => by cases e
theorem Reps.strs : ∀ {ds : List D} {vs : List V} {is : List Str}, Reps g F ds vs → strsOf ds = some is → vs = is.map V.str
  | [], _, is, h, e => by
    cases (show _ = [] from h)
    cases (show some [] = some is from e)
    rfl
  | .str i :: ds, _, is, h, e => by
    obtain ⟨w, ws, rfl, r, s⟩ := h
    cases (show w = V.str i from r)
    have e' : (strsOf ds).map (i :: ·) = some is := e
    cases q : strsOf ds with
    | none => rw [q] at e'; cases e'
    | some js =>
      rw [q] at e'
      cases e'
      rw [Reps.strs s q]
      rfl
  | .non :: _, _, _, _, e => by cases e
  | .bl _ :: _, _, _, _, e => by cases e
  | .int _ :: _, _, _, _, e => by cases e
  | .tup _ :: _, _, _, _, e => by cases e
  | .lst _ :: _, _, _, _, e => by cases e
  | .dicK _ _ :: _, _, _, _, e => by cases e
  | .dicT _ _ :: _, _, _, _, e => by cases e
  | .fn _ :: _, _, _, _, e => by cases e
  | .drw :: _, _, _, _, e => by cases e
  | .ilst _ :: _, _, _, _, e => by cases e
theorem Reps.bls : ∀ {ds : List D} {vs : List V} {is : List Bool}, Reps g F ds vs → blsOf ds = some is → vs = is.map V.bl
  | [], _, is, h, e => by
    cases (show _ = [] from h)
    cases (show some [] = some is from e)
    rfl
  | .bl i :: ds, _, is, h, e => by
    obtain ⟨w, ws, rfl, r, s⟩ := h
    cases (show w = V.bl i from r)
    have e' : (blsOf ds).map (i :: ·) = some is := e
    cases q : blsOf ds with
    | none => rw [q] at e'; cases e'
    | some js =>
      rw [q] at e'
      cases e'
      rw [Reps.bls s q]
      rfl
  | .non :: _, _, _, _, e => by cases e
  | .str _ :: _, _, _, _, e => by cases e
  | .int _ :: _, _, _, _, e => by cases e
  | .tup _ :: _, _, _, _, e => by cases e
  | .lst _ :: _, _, _, _, e => by cases e
  | .dicK _ _ :: _, _, _, _, e => by cases e
  | .dicT _ _ :: _, _, _, _, e => by cases e
  | .fn _ :: _, _, _, _, e => by cases e
  | .drw :: _, _, _, _, e => by cases e
  | .ilst _ :: _, _, _, _, e => by cases e
theorem repInts (is : List Int) : Reps g F (is.map .int) (is.map V.int) := by
  induction is with
  | nil => rfl
  | cons i r ih => exact Reps.cons rfl ih
end
mutual
theorem Rep.dp {g : Gd} {F H : Hp} (e : Sub F H) : ∀ (d : D) (v : V) (p : PyData), Rep g F d v → d.py = some p → Dp g.K H v p
  | .non, _, p, h, q => by
    cases (show some PyData.none = some p from q)
    rw [show _ = V.non from h]
    exact .non
  | .bl b, _, p, h, q => by
    cases (show some (PyData.bool b) = some p from q)
    rw [show _ = V.bl b from h]
    exact .bl b
  | .int b, _, p, h, q => by
    cases (show some (PyData.int b) = some p from q)
    rw [show _ = V.int b from h]
    exact .int b
  | .str b, _, p, h, q => by
    cases (show some (PyData.str b) = some p from q)
    rw [show _ = V.str b from h]
    exact .str b
  | .tup ds, _, p, h, q => by
    have q' : (D.pys ds).map PyData.tuple = some p := q
    cases r : D.pys ds with
    | none => rw [r] at q'; cases q'
    | some ps =>
      rw [r] at q'
      cases q'
      obtain ⟨l, a, vs, rfl, s, t⟩ := h
      exact .tup (.inl (.inl (e _ _ s))) (Reps.dp e ds vs ps t r)
  | .lst ds, _, p, h, q => by
    have q' : (D.pys ds).map PyData.list = some p := q
    cases r : D.pys ds with
    | none => rw [r] at q'; cases q'
    | some ps =>
      rw [r] at q'
      cases q'
      obtain ⟨l, a, vs, rfl, s, t⟩ := h
      exact .lst (.inl (.inl (e _ _ s))) (Reps.dp e ds vs ps t r)
  | .dicK _ _, _, p, _, q => by cases (show none = some p from q)
  | .dicT _ _, _, p, _, q => by cases (show none = some p from q)
  | .fn _, _, p, _, q => by cases (show none = some p from q)
  | .drw, _, p, _, q => by cases (show none = some p from q)
  | .ilst _, _, p, _, q => by cases (show none = some p from q)
theorem Reps.dp {g : Gd} {F H : Hp} (e : Sub F H) : ∀ (ds : List D) (vs : List V) (ps : List PyData), Reps g F ds vs → D.pys ds = some ps → DpAll g.K H vs ps
  | [], vs, ps, h, q => by
    cases (show some [] = some ps from q)
    rw [show vs = [] from h]
    exact .nil
  | d :: ds, vs, ps, h, q => by
    obtain ⟨w, ws, rfl, r, s⟩ := h
    have q' : (match d.py, D.pys ds with | some p, some ps => some (p :: ps) | _, _ => none) = some ps := q
    cases e1 : d.py with
    | none => rw [e1] at q'; cases q'
    | some p1 =>
      cases e2 : D.pys ds with
      | none => rw [e1, e2] at q'; cases q'
      | some p2 =>
        rw [e1, e2] at q'
        cases q'
        exact .cons (Rep.dp e d w p1 r e1) (Reps.dp e ds ws p2 s e2)
end

/-- a container at p that the frame alone knows -/
def OwnR (g : Gd) (F H : Hp) (p : Addr) : D → Prop
  | .lst ds => ds.length ≤ sizeLine ∧ ∃ vs, H p = some (.lst vs) ∧ Reps g F ds vs
  | .dicK ks ds => ks.Nodup ∧ ks.length ≤ sizeLine ∧ ks.length = ds.length ∧ ∃ vs, H p = some (.dK (ks.zip vs)) ∧ Reps g F ds vs
  | .dicT ks ds => ks.Nodup ∧ ks.length ≤ sizeLine ∧ ks.length = ds.length ∧ ∃ vs, H p = some (.dT (ks.zip vs)) ∧ Reps g F ds vs
  | _ => False
theorem OwnR.mono {g : Gd} {F F' H H' : Hp} {p : Addr} {d : D} (e : Sub F F') (k : ∀ o, H p = some o → H' p = some o) (h : OwnR g F H p d) : OwnR g F' H' p d := by
  cases d with
  | lst ds =>
    obtain ⟨l, vs, a, r⟩ := h
    exact ⟨l, vs, k _ a, Reps.mono e _ _ r⟩
  | dicK ks ds =>
    obtain ⟨n, l, l2, vs, a, r⟩ := h
    exact ⟨n, l, l2, vs, k _ a, Reps.mono e _ _ r⟩
  | dicT ks ds =>
    obtain ⟨n, l, l2, vs, a, r⟩ := h
    exact ⟨n, l, l2, vs, k _ a, Reps.mono e _ _ r⟩
  | _ => exact h
theorem OwnR.there {g : Gd} {F H : Hp} {p : Addr} {d : D} (h : OwnR g F H p d) : ∃ o, H p = some o := by
  cases d with
  | lst ds => obtain ⟨l, vs, a, r⟩ := h; exact ⟨_, a⟩
  | dicK ks ds => obtain ⟨n, l, l2, vs, a, r⟩ := h; exact ⟨_, a⟩
  | dicT ks ds => obtain ⟨n, l, l2, vs, a, r⟩ := h; exact ⟨_, a⟩
  | _ => exact False.elim h
/-- it becomes known to all -/
theorem OwnR.rep {g : Gd} {F F' H : Hp} {p : Addr} {d : D} (h : OwnR g F H p d) (e : Sub F F') (k : ∀ o, H p = some o → F' p = some o) : Rep g F' d (.ref p) := by
  cases d with
  | lst ds =>
    obtain ⟨l, vs, a, r⟩ := h
    exact ⟨l, p, vs, rfl, k _ a, Reps.mono e _ _ r⟩
  | dicK ks ds =>
    obtain ⟨n, l, l2, vs, a, r⟩ := h
    exact ⟨n, l, l2, p, vs, rfl, k _ a, Reps.mono e _ _ r⟩
  | dicT ks ds =>
    obtain ⟨n, l, l2, vs, a, r⟩ := h
    exact ⟨n, l, l2, p, vs, rfl, k _ a, Reps.mono e _ _ r⟩
  | _ => exact False.elim h

def RepQ (g : Gd) (pk : Bool) (F H : Hp) (d : D) (v : V) : Prop := Rep g F d v ∨ (pk = true ∧ ∃ p, v = .ref p ∧ some p ≠ g.ad ∧ OwnR g F H p d)
theorem RepQ.rep {g : Gd} {F H : Hp} {d : D} {v : V} (h : RepQ g false F H d v) : Rep g F d v := by
  rcases h with h | ⟨h, _⟩
  · exact h
  · cases h
section
variable {g : Gd} {pk : Bool} {F H : Hp} {v : V}
theorem rq_lst {ds : List D} (h : RepQ g pk F H (.lst ds) v) (s : Sub F H) : ∃ p vs, v = .ref p ∧ H p = some (.lst vs) ∧ Reps g F ds vs ∧ ds.length ≤ sizeLine := by
  rcases h with ⟨l, a, vs, rfl, k, r⟩ | ⟨_, p, rfl, _, l, vs, k, r⟩
  · exact ⟨a, vs, rfl, s _ _ k, r, l⟩
  · exact ⟨p, vs, rfl, k, r, l⟩
theorem rq_ilst {is : List Int} (h : RepQ g pk F H (.ilst is) v) (s : Sub F H) : ∃ p, v = .ref p ∧ SqL g.K H p (is.map V.int) ∧ is.length ≤ sizeLine := by
  rcases h with ⟨l, a, rfl, k⟩ | ⟨_, p, rfl, _, z⟩
  · exact ⟨a, rfl, sqL_sub s k, l⟩
  · exact z.elim
theorem rq_tup {ds : List D} (h : RepQ g pk F H (.tup ds) v) (s : Sub F H) : ∃ p vs, v = .ref p ∧ H p = some (.tup vs) ∧ Reps g F ds vs ∧ ds.length ≤ sizeLine := by
  rcases h with ⟨l, a, vs, rfl, k, r⟩ | ⟨_, p, rfl, _, z⟩
  · exact ⟨a, vs, rfl, s _ _ k, r, l⟩
  · exact z.elim
theorem rq_int {i : Int} (h : RepQ g pk F H (.int i) v) : v = .int i := by
  rcases h with h | ⟨_, p, rfl, _, z⟩
  · exact h
  · exact z.elim
theorem rq_bl {i : Bool} (h : RepQ g pk F H (.bl i) v) : v = .bl i := by
  rcases h with h | ⟨_, p, rfl, _, z⟩
  · exact h
  · exact z.elim
theorem rq_str {i : Str} (h : RepQ g pk F H (.str i) v) : v = .str i := by
  rcases h with h | ⟨_, p, rfl, _, z⟩
  · exact h
  · exact z.elim
theorem rq_non (h : RepQ g pk F H .non v) : v = .non := by
  rcases h with h | ⟨_, p, rfl, _, z⟩
  · exact h
  · exact z.elim
theorem rq_fn {x : Str} (h : RepQ g pk F H (.fn x) v) : ∃ a, v = .ref a ∧ g.mg x = some (.ref a) := by
  rcases h with h | ⟨_, p, rfl, _, z⟩
  · exact h
  · exact z.elim
theorem rq_dicK {ks : List L2.Key} {ds : List D} (h : RepQ g pk F H (.dicK ks ds) v) (s : Sub F H) : ∃ p vs, v = .ref p ∧ H p = some (.dK (ks.zip vs)) ∧ Reps g F ds vs ∧ ks.Nodup ∧ ks.length ≤ sizeLine ∧ ks.length = ds.length := by
  rcases h with ⟨n, l, l2, a, vs, rfl, k, r⟩ | ⟨_, p, rfl, _, n, l, l2, vs, k, r⟩
  · exact ⟨a, vs, rfl, s _ _ k, r, n, l, l2⟩
  · exact ⟨p, vs, rfl, k, r, n, l, l2⟩
theorem rq_dicT {ks : List (List L2.Key)} {ds : List D} (h : RepQ g pk F H (.dicT ks ds) v) (s : Sub F H) : ∃ p vs, v = .ref p ∧ H p = some (.dT (ks.zip vs)) ∧ Reps g F ds vs ∧ ks.Nodup ∧ ks.length ≤ sizeLine ∧ ks.length = ds.length := by
  rcases h with ⟨n, l, l2, a, vs, rfl, k, r⟩ | ⟨_, p, rfl, _, n, l, l2, vs, k, r⟩
  · exact ⟨a, vs, rfl, s _ _ k, r, n, l, l2⟩
  · exact ⟨p, vs, rfl, k, r, n, l, l2⟩
theorem rq_dp {d : D} {p : PyData} (h : RepQ g pk F H d v) (s : Sub F H) (e : d.py = some p) : Dp g.K H v p := by
  rcases h with h | ⟨_, a, rfl, _, z⟩
  · exact Rep.dp s d v p h e
  · cases d with
    | lst ds =>
      obtain ⟨l, vs, k, r⟩ := z
      have q' : (D.pys ds).map PyData.list = some p := e
      cases r2 : D.pys ds with
      | none => rw [r2] at q'; cases q'
      | some ps =>
        rw [r2] at q'
        cases q'
        exact .lst (.inl (.inl k)) (Reps.dp s ds vs ps r r2)
    | dicK _ _ => cases e
    | dicT _ _ => cases e
    | _ => exact z.elim
end

/-! ### steps -/
/-- from (F, H) to (F', H'): what was known stays; the row of draws is dr' -/
structure Post (g : Gd) (F H F' H' : Hp) (dr' : List Int) : Prop where
  f : Sub F F'
  s : Sub F' H'
  old : ∀ b o, H b = some o → some b ≠ g.ad → H' b = some o
  new : ∀ b, F' b ≠ none → F b ≠ none ∨ H b = none
  fd : ∀ a, g.ad = some a → F' a = none
  dr : ∀ a, g.ad = some a → H' a = some (.lst (dr'.reverse.map V.int))
section
variable {g : Gd} {F H F1 H1 F2 H2 : Hp} {dr dr1 dr2 : List Int}
theorem Post.trans (a : Post g F H F1 H1 dr1) (b : Post g F1 H1 F2 H2 dr2) : Post g F H F2 H2 dr2 where
  f := a.f.trans b.f
  s := b.s
  old := fun c o h n => b.old c o (a.old c o h n) n
  new := fun c h => by
    rcases b.new c h with q | q
    · exact a.new c q
    · right
      cases e : H c with
      | none => rfl
      | some o =>
        by_cases hc : some c = g.ad
        · rw [a.dr c hc.symm] at q
          cases q
        · rw [a.old c o e hc] at q
          cases q
  fd := b.fd
  dr := b.dr
theorem Post.refl (s : Sub F H) (fd : ∀ a, g.ad = some a → F a = none) (d : ∀ a, g.ad = some a → H a = some (.lst (dr.reverse.map V.int))) : Post g F H F H dr := ⟨Same.refl _, s, fun _ _ h _ => h, fun _ h => .inl h, fd, d⟩
theorem sub_upd {p : Addr} {o : HO} (h : F p = none) : Sub F (upd F p o) := fun b u e => by
  rw [upd_ne (ne_of_none e h)]
  exact e
theorem Post.self (a : Post g F H F1 H1 dr1) : Post g F1 H1 F1 H1 dr1 := Post.refl a.s a.fd a.dr
theorem Post.pne (a : Post g F H F1 H1 dr1) {p : Addr} (h : H1 p = none) : some p ≠ g.ad := fun e => by
  rw [a.dr p e.symm] at h
  cases h
theorem ne_ad {g : Gd} {p a : Addr} (h : some p ≠ g.ad) (e : g.ad = some a) : a ≠ p := fun z => h (by rw [e, z])
/-- a new object; known to all or not -/
theorem Post.alloc (a : Post g F H F1 H1 dr1) {p : Addr} {o : HO} (h : H1 p = none) : Post g F H (upd F1 p o) (upd H1 p o) dr1 := by
  have hp := a.pne h
  have hF : F1 p = none := a.s.free h
  refine ⟨a.f.trans (sub_upd hF), fun b u e => ?_, fun b u e n => ?_, fun b e => ?_, ?_, ?_⟩
  · by_cases hb : b = p
    · subst hb
      rw [upd_same] at e ⊢
      exact e
    · rw [upd_ne hb] at e ⊢
      exact a.s _ _ e
  · have q := a.old b u e n
    rw [upd_ne (ne_of_none q h)]
    exact q
  · by_cases hb : b = p
    · subst hb
      right
      cases q : H b with
      | none => rfl
      | some u =>
        rw [a.old b u q hp] at h
        cases h
    · rw [upd_ne hb] at e
      exact a.new b e
  · intro c hc
    rw [upd_ne (ne_ad hp hc)]
    exact a.fd c hc
  · intro c hc
    rw [upd_ne (ne_ad hp hc)]
    exact a.dr c hc
theorem Post.allocH (a : Post g F H F1 H1 dr1) {p : Addr} {o : HO} (h : H1 p = none) : Post g F H F1 (upd H1 p o) dr1 := by
  have hp := a.pne h
  refine ⟨a.f, fun b u e => ?_, fun b u e n => ?_, a.new, a.fd, ?_⟩
  · have q := a.s _ _ e
    rw [upd_ne (ne_of_none q h)]
    exact q
  · have q := a.old b u e n
    rw [upd_ne (ne_of_none q h)]
    exact q
  · intro c hc
    rw [upd_ne (ne_ad hp hc)]
    exact a.dr c hc
/-- an own object is changed -/
theorem Post.mut (a : Post g F H F1 H1 dr1) {p : Addr} {o : HO} (h : H p = none) (hF : F1 p = none) (hp : some p ≠ g.ad) : Post g F H F1 (upd H1 p o) dr1 := by
  refine ⟨a.f, fun b u e => ?_, fun b u e n => ?_, a.new, a.fd, ?_⟩
  · rw [upd_ne (ne_of_none e hF)]
    exact a.s _ _ e
  · rw [upd_ne (ne_of_none e h)]
    exact a.old b u e n
  · intro c hc
    rw [upd_ne (ne_ad hp hc)]
    exact a.dr c hc
/-- an own object becomes known -/
theorem Post.frz (a : Post g F H F1 H1 dr1) {p : Addr} {o : HO} (h : H p = none) (hF : F1 p = none) (hp : some p ≠ g.ad) (ho : H1 p = some o) : Post g F H (upd F1 p o) H1 dr1 := by
  refine ⟨a.f.trans (sub_upd hF), fun b u e => ?_, a.old, fun b e => ?_, ?_, a.dr⟩
  · by_cases hb : b = p
    · subst hb
      rw [upd_same] at e
      cases e
      exact ho
    · rw [upd_ne hb] at e
      exact a.s _ _ e
  · by_cases hb : b = p
    · subst hb
      exact .inr h
    · rw [upd_ne hb] at e
      exact a.new b e
  · intro c hc
    rw [upd_ne (ne_ad hp hc)]
    exact a.fd c hc
/-- the row of draws is shortened -/
theorem Post.draw (a : Post g F H F1 H1 dr1) {q : Addr} (hq : g.ad = some q) : Post g F H F1 (upd H1 q (.lst (dr2.reverse.map V.int))) dr2 := by
  refine ⟨a.f, fun b u e => ?_, fun b u e n => ?_, a.new, a.fd, fun c hc => ?_⟩
  · rw [upd_ne (ne_of_none e (a.fd q hq))]
    exact a.s _ _ e
  · rw [upd_ne (Ne.symm (ne_ad n hq))]
    exact a.old b u e n
  · rw [hq] at hc
    cases hc
    exact upd_same
end

theorem RepQ.step {g : Gd} {pk : Bool} {F H F1 H1 : Hp} {dr : List Int} {d : D} {v : V} (h : RepQ g pk F H d v) (a : Post g F H F1 H1 dr) : RepQ g pk F1 H1 d v := by
  rcases h with h | ⟨q, p, e, n, h⟩
  · exact .inl (Rep.mono a.f _ _ h)
  · exact .inr ⟨q, p, e, n, h.mono a.f fun o e => a.old _ _ e n⟩
/-- how the slots stand -/
def SlotR (g : Gd) (F H H0 : Hp) (s : Sl) (o : Option (Option V)) : Prop := match s with
  | .no => True
  | .val d => ∃ v, o = some (some v) ∧ Rep g F d v
  | .own d => ∃ p, o = some (some (.ref p)) ∧ F p = none ∧ H0 p = none ∧ some p ≠ g.ad ∧ OwnR g F H p d
structure StR (g : Gd) (F0 H0 : Hp) (σ : L2.St) (env : Env) (F H : Hp) (dr : List Int) : Prop where
  po : Post g F0 H0 F H dr
  len : σ.length = env.length
  slot : ∀ i, SlotR g F H H0 (get env i) σ[i]?
  apart : ∀ i j d e p, get env i = .own d → get env j = .own e → σ[i]? = some (some (.ref p)) → σ[j]? = some (some (.ref p)) → i = j
section
variable {g : Gd} {F0 H0 F H F1 H1 : Hp} {dr dr1 : List Int} {σ : L2.St} {env : Env}
theorem SlotR.step {s : Sl} {o : Option (Option V)} (h : SlotR g F H H0 s o) (a : Post g F H F1 H1 dr1) : SlotR g F1 H1 H0 s o := by
  cases s with
  | no => trivial
  | val d =>
    obtain ⟨v, e, r⟩ := h
    exact ⟨v, e, Rep.mono a.f _ _ r⟩
  | own d =>
    obtain ⟨p, e, f, h0, n, r⟩ := h
    obtain ⟨o, ho⟩ := r.there
    refine ⟨p, e, ?_, h0, n, r.mono a.f fun o h => a.old _ _ h n⟩
    cases q : F1 p with
    | none => rfl
    | some u =>
      rcases a.new p (by rw [q]; simp) with z | z
      · exact absurd f z
      · rw [ho] at z
        cases z
theorem StR.step (a : StR g F0 H0 σ env F H dr) (b : Post g F H F1 H1 dr1) : StR g F0 H0 σ env F1 H1 dr1 := ⟨a.po.trans b, a.len, fun i => (a.slot i).step b, a.apart⟩
theorem get_set (env : Env) (i j : Nat) (s : Sl) : get (env.set i s) j = if i = j ∧ i < env.length then s else get env j := by
  unfold get
  rw [List.getD_eq_getElem?_getD, List.getD_eq_getElem?_getD, List.getElem?_set]
  by_cases h : i = j
  · subst h
    by_cases hl : i < env.length
    · simp [hl]
    · simp [hl]
  · simp [h]
/-- a slot takes a value known to all -/
theorem StR.setV (a : StR g F0 H0 σ env F H dr) {i : Nat} {d : D} {v : V} (hi : i < env.length) (r : Rep g F d v) : StR g F0 H0 (σ.set i (some v)) (env.set i (.val d)) F H dr := by
  refine ⟨a.po, by rw [List.length_set, List.length_set]; exact a.len, fun j => ?_, fun j l d' e' p h1 h2 h3 h4 => ?_⟩
  · rw [get_set]
    by_cases hj : i = j
    · subst hj
      rw [if_pos ⟨rfl, hi⟩, List.getElem?_set_self (by rw [a.len]; exact hi)]
      exact ⟨v, rfl, r⟩
    · rw [if_neg (fun z => hj z.1), List.getElem?_set_ne hj]
      exact a.slot j
  · rw [get_set] at h1 h2
    by_cases hj : i = j
    · rw [if_pos ⟨hj, hi⟩] at h1
      cases h1
    · by_cases hl : i = l
      · rw [if_pos ⟨hl, hi⟩] at h2
        cases h2
      · rw [if_neg (fun z => hj z.1)] at h1
        rw [if_neg (fun z => hl z.1)] at h2
        rw [List.getElem?_set_ne hj] at h3
        rw [List.getElem?_set_ne hl] at h4
        exact a.apart j l d' e' p h1 h2 h3 h4
/-- a slot takes a new object as its own -/
theorem StR.setO (a : StR g F0 H0 σ env F H dr) {i : Nat} {d : D} {p : Addr} (hi : i < env.length) (f : F p = none) (h0 : H0 p = none) (n : some p ≠ g.ad) (r : OwnR g F H p d)
    (ap : ∀ j d', get env j = .own d' → σ[j]? = some (some (.ref p)) → j = i) : StR g F0 H0 (σ.set i (some (.ref p))) (env.set i (.own d)) F H dr := by
  refine ⟨a.po, by rw [List.length_set, List.length_set]; exact a.len, fun j => ?_, fun j l d' e' q h1 h2 h3 h4 => ?_⟩
  · rw [get_set]
    by_cases hj : i = j
    · subst hj
      rw [if_pos ⟨rfl, hi⟩, List.getElem?_set_self (by rw [a.len]; exact hi)]
      exact ⟨p, rfl, f, h0, n, r⟩
    · rw [if_neg (fun z => hj z.1), List.getElem?_set_ne hj]
      exact a.slot j
  · rw [get_set] at h1 h2
    by_cases hj : i = j
    · by_cases hl : i = l
      · rw [← hj, ← hl]
      · rw [if_neg (fun z => hl z.1)] at h2
        rw [List.getElem?_set_ne hl] at h4
        subst hj
        rw [List.getElem?_set_self (by rw [a.len]; exact hi)] at h3
        cases h3
        exact (ap l e' h2 h4).symm
    · rw [if_neg (fun z => hj z.1)] at h1
      rw [List.getElem?_set_ne hj] at h3
      by_cases hl : i = l
      · subst hl
        rw [List.getElem?_set_self (by rw [a.len]; exact hi)] at h4
        cases h4
        exact ap j d' h1 h3
      · rw [if_neg (fun z => hl z.1)] at h2
        rw [List.getElem?_set_ne hl] at h4
        exact a.apart j l d' e' q h1 h2 h3 h4
end
end Cr
/-! Operators upon trees. -/
namespace Cr
open PySem PySem.Spec PyProof.Rows L2

abbrev gd (X : Cx) (ad : Option Addr) : Gd := ⟨X.K, X.mg, ad⟩
def pyOp : BOp → Operator
  | .add => .Add | .sub => .Sub | .mul => .Mult | .fdiv => .FloorDiv | .mod => .Mod | .pow => .Pow | .shl => .LShift | .shr => .RShift | .band => .BitAnd | .bor => .BitOr | .bxor => .BitXor
def pyCm : COp → CmpOp
  | .eq => .Eq | .ne => .NotEq | .lt => .Lt | .le => .LtE | .gt => .Gt | .ge => .GtE | .is => .Is | .isnot => .IsNot | .in_ => .In | .notin => .NotIn

/-- a new object of the frame's own, holding d -/
def KontF (g : Gd) (F H : Hp) (d : D) (Q : VK) : Prop := ∀ p o, H p = none → OwnR g F (upd H p o) p d → Q (.ref p) (upd H p o)
/-- the value d in some form: there, or newly made -/
def Kont (g : Gd) (F H : Hp) (d : D) (Q : VK) : Prop := (∀ v, Rep g F d v → Q v H) ∧ ∀ p o, H p = none → Rep g (upd F p o) d (.ref p) → Q (.ref p) (upd H p o)
theorem Kont.fresh {g : Gd} {F H : Hp} {d : D} {Q : VK} (s : Sub F H) (k : Kont g F H d Q) : KontF g F H d Q := fun p o h r =>
  k.2 p o h (r.rep (sub_upd (s.free h)) fun o' e => by rw [upd_same] at e ⊢; exact e)

/-- o is a tuple of these, made anew -/
theorem rep_tup {g : Gd} {F : Hp} {ds : List D} {vs : List V} {p : Addr} (h : F p = none) (r : Reps g F ds vs) (l : ds.length ≤ sizeLine) : Rep g (upd F p (.tup vs)) (.tup ds) (.ref p) :=
  ⟨l, p, vs, rfl, upd_same, Reps.mono (sub_upd h) _ _ r⟩
theorem own_lst {g : Gd} {F H : Hp} {ds : List D} {vs : List V} {p : Addr} (r : Reps g F ds vs) (l : ds.length ≤ sizeLine) : OwnR g F (upd H p (.lst vs)) p (.lst ds) := ⟨l, vs, upd_same, r⟩
theorem szOk_le {n : Nat} (h : szOk n = true) : n ≤ sizeLine := of_decide_eq_true h
theorem grd_some {α : Type} {b : Bool} {a x : α} (h : grd b a = some x) : b = true ∧ a = x := by
  unfold grd at h
  split at h
  · rename_i hb
    exact ⟨hb, Option.some.inj h⟩
  · cases h
theorem pos_le (i j : Int) (h : 0 < j) : i.fdiv j = i / j := Int.fdiv_eq_ediv_of_nonneg i (by omega)
theorem foldl_app (xs : Array Nat) : ∀ (n : Nat) (acc : List Nat), ((List.replicate n xs).foldl (· ++ ·) acc.toArray) = (acc ++ (List.replicate n xs.toList).flatten).toArray
  | 0, acc => by simp
  | n + 1, acc => by
    rw [List.replicate_succ, List.replicate_succ, List.foldl_cons, List.flatten_cons]
    have e : acc.toArray ++ xs = (acc ++ xs.toList).toArray := by simp
    rw [e, foldl_app xs n (acc ++ xs.toList)]
    simp
section
variable {X : Cx} {ad : Option Addr}
theorem op_mul_str : OpR X (binaryOp .Mult) (fun x y H Q => ∃ z n, x = .str z ∧ y = .int n ∧ (-(2 ^ 63) ≤ n ∧ n < 2 ^ 63) ∧ z.length * n.toNat ≤ sizeLine ∧ Q (.str (repStr z n.toNat)) H) := by
  intro pins s σ H x y v u Q I rx ry h
  obtain ⟨z, n, rfl, rfl, ⟨h1, h2⟩, hl, q⟩ := h
  obtain ⟨t, rfl⟩ := rx
  obtain ⟨t', rfl⟩ := ry
  have hr : (decide (n < -(2 ^ 63 : Int)) || decide (n ≥ 2 ^ 63)) = false := by
    rw [decide_eq_false (by omega), decide_eq_false (by omega)]
    rfl
  have s24 := sizeLine_eq
  refine PySem.P.mul_str hr (fun h3 h4 => ?_) (fun h3 h4 => ?_) ?_
  · have hz : 0 < z.length := by
      cases e : z.length with
      | zero => rw [e] at h4; simp at h4
      | succ k => omega
    have hn1 : 1 ≤ n := by omega
    have hb : (z.length : Int) * n ≤ 16777216 := by
      have : ((z.length * n.toNat : Nat) : Int) ≤ ((16777216 : Nat) : Int) := by
        have := hl
        rw [s24] at this
        exact_mod_cast this
      rw [Int.natCast_mul, Int.toNat_of_nonneg (by omega)] at this
      exact this
    intro h5
    have h6 : (2 ^ 63 - 1 : Int) / n < (z.length : Int) := h5
    have h7 : (2 ^ 63 - 1 : Int) < (z.length : Int) * n := Int.lt_mul_of_ediv_lt (by omega) h6
    omega
  · exact decide_eq_false (by omega)
  · have fin : ∀ (w' : Value) (tk : Nat), RelV (.str (repStr z n.toNat)) w' → EP X pins σ Q w' { s with toks := tk } := fun w' tk r => ⟨_, H, I.tok tk, r, q⟩
    by_cases h3 : n < 1
    · rw [if_pos h3]
      have e : n.toNat = 0 := by omega
      refine ⟨by decide, fin _ _ ⟨s.toks, ?_⟩⟩
      rw [e]
      rfl
    · rw [if_neg h3]
      cases h4 : (n == 1 || z.length == 0) with
      | true =>
        rw [if_pos rfl]
        refine fin _ s.toks ⟨t, ?_⟩
        have e2 : repStr z n.toNat = z := by
          unfold repStr
          rcases Bool.or_eq_true_iff.mp h4 with h5 | h5
          · have : n = 1 := by simpa using h5
            subst this
            simp
          · have h6 : z.length = 0 := beq_iff_eq.mp h5
            have h7 : z.cps = #[] := Array.eq_empty_of_size_eq_zero (show z.cps.size = 0 from h6)
            obtain ⟨c⟩ := z
            simp only at h7
            subst h7
            simp
        rw [e2]
      | false =>
        rw [if_neg Bool.false_ne_true]
        have e2 : (⟨(List.replicate n.toNat z.cps).foldl (· ++ ·) #[]⟩ : Str) = repStr z n.toNat := by
          unfold repStr
          rw [show (#[] : Array Nat) = ([] : List Nat).toArray from rfl, foldl_app]
          simp
        rw [e2]
        refine ⟨?_, fin _ _ ⟨s.toks, rfl⟩⟩
        have e3 : (repStr z n.toNat).length = n.toNat * z.length := by
          unfold repStr Str.length
          rw [List.size_toArray, List.length_flatten]
          simp
        rw [e3, Nat.mul_comm]
        exact hl
def rBin (g : Gd) (op : BOp) : R2 := fun x y H Q => ∃ F d1 d2 d, Sub F H ∧ RepQ g true F H d1 x ∧ RepQ g true F H d2 y ∧ binD op d1 d2 = some d ∧ Kont g F H d Q
theorem rep_int (g : Gd) (F : Hp) (i : Int) : Rep g F (.int i) (.int i) := rfl
theorem two63 : (2 : Int) ^ 63 = 9223372036854775808 := by decide
theorem op_bin (op : BOp) : OpR X (binaryOp (pyOp op)) (rBin (gd X ad) op) := by
  intro pins s σ H x y v u Q I rx ry h
  obtain ⟨F, d1, d2, d, sb, r1, r2, e, k⟩ := h
  cases op with
  | add =>
    cases d1 <;> cases d2 <;> try (cases e; done)
    · cases rq_int r1; cases rq_int r2; cases e
      exact op_add pins s σ H _ _ v u Q I rx ry ⟨_, _, rfl, rfl, k.1 _ rfl⟩
    · cases rq_str r1; cases rq_str r2
      obtain ⟨h1, rfl⟩ := grd_some e
      exact op_add_str pins s σ H _ _ v u Q I rx ry ⟨_, _, rfl, rfl, szOk_le h1, k.1 _ rfl⟩
    · obtain ⟨p, xs, rfl, h1, t1, l1⟩ := rq_tup r1 sb
      obtain ⟨p2, ys, rfl, h2, t2, l2⟩ := rq_tup r2 sb
      obtain ⟨h3, rfl⟩ := grd_some e
      have h3' := szOk_le h3
      have e1 := t1.len
      have e2 := t2.len
      refine op_catA pins s σ H _ _ v u Q I rx ry ⟨p, p2, xs, ys, rfl, rfl, .of h1, .of h2, by omega, fun z => ?_, fun z1 z2 => ?_, fun z1 z2 p3 hp => ?_⟩
      · subst z
        have : (show List D from _) = [] := List.eq_nil_of_length_eq_zero (by simpa using e1.symm)
        subst this
        refine k.1 _ ?_
        rw [List.nil_append]
        rcases r2 with r2 | ⟨_, _, _, _, z⟩
        · exact r2
        · exact z.elim
      · subst z2
        have : (show List D from _) = [] := List.eq_nil_of_length_eq_zero (by simpa using e2.symm)
        subst this
        refine k.1 _ ?_
        rw [List.append_nil]
        rcases r1 with r1 | ⟨_, _, _, _, z⟩
        · exact r1
        · exact z.elim
      · exact k.2 _ _ hp (rep_tup (sb.free hp) (t1.app t2) (by rw [List.length_append]; exact h3'))
    · obtain ⟨p, xs, rfl, h1, t1, l1⟩ := rq_lst r1 sb
      obtain ⟨p2, ys, rfl, h2, t2, l2⟩ := rq_lst r2 sb
      obtain ⟨h3, rfl⟩ := grd_some e
      have h3' := szOk_le h3
      have e1 := t1.len
      have e2 := t2.len
      exact op_cat pins s σ H _ _ v u Q I rx ry ⟨p, p2, xs, ys, rfl, rfl, h1, h2, by omega, fun p3 hp => k.fresh sb _ _ hp (own_lst (t1.app t2) (by rw [List.length_append]; exact h3'))⟩
  | sub =>
    cases d1 <;> cases d2 <;> try (cases e; done)
    cases rq_int r1; cases rq_int r2; cases e
    exact op_sub pins s σ H _ _ v u Q I rx ry ⟨_, _, rfl, rfl, k.1 _ rfl⟩
  | mul =>
    cases d1 <;> cases d2 <;> try (cases e; done)
    · cases rq_int r1; cases rq_int r2
      obtain ⟨h1, rfl⟩ := grd_some e
      unfold mulOk at h1
      rw [Bool.or_eq_true, decide_eq_true_eq] at h1
      rcases h1 with h1 | h1
      · rw [Bool.or_eq_true, decide_eq_true_eq, decide_eq_true_eq] at h1
        exact op_mul pins s σ H _ _ v u Q I rx ry ⟨_, _, rfl, rfl, h1, k.1 _ rfl⟩
      · exact op_mulW pins s σ H _ _ v u Q I rx ry ⟨_, _, rfl, rfl, h1, k.1 _ rfl⟩
    · cases rq_str r1; cases rq_int r2
      obtain ⟨h1, rfl⟩ := grd_some e
      rw [Bool.and_eq_true, decide_eq_true_eq] at h1
      exact op_mul_str pins s σ H _ _ v u Q I rx ry ⟨_, _, rfl, rfl, h1.1, szOk_le h1.2, k.1 _ rfl⟩
    · rename_i es n
      obtain ⟨p, xs, rfl, h1, t1, l1⟩ := rq_tup r1 sb
      cases rq_int r2
      obtain ⟨h3, rfl⟩ := grd_some e
      rw [Bool.and_eq_true, decide_eq_true_eq] at h3
      have e1 := t1.len
      have hs := sizeLine_eq
      refine op_repT pins s σ H _ _ v u Q I rx ry ⟨p, _, xs, rfl, rfl, .of h1, fun z => ?_, h3.2.1, h3.2.2.1, by omega, fun p3 hp => k.2 _ _ hp (rep_tup (sb.free hp) (t1.rep _) ?_)⟩
      · subst z
        have : (show List D from _) = [] := List.eq_nil_of_length_eq_zero (by simpa using e1.symm)
        subst this
        simp at h3
      · rw [List.length_flatten]
        simp only [List.map_replicate, List.sum_replicate_nat]
        have h5 := h3.2
        have : n.toNat * es.length ≤ 1000 * 1000 := Nat.mul_le_mul (by omega) h5.2.2
        omega
    · obtain ⟨p, xs, rfl, h1, t1, l1⟩ := rq_lst r1 sb
      cases rq_int r2
      obtain ⟨h3, rfl⟩ := grd_some e
      rw [Bool.and_eq_true, decide_eq_true_eq] at h3
      have h4 := szOk_le h3.2
      have e1 := t1.len
      refine op_rep pins s σ H _ _ v u Q I rx ry ⟨p, _, xs, rfl, rfl, h1, h3.1.1, h3.1.2, by rw [e1]; exact h4, fun p3 hp => k.fresh sb _ _ hp (own_lst (t1.rep _) ?_)⟩
      rw [List.length_flatten]
      simp only [List.map_replicate, List.sum_replicate_nat]
      rw [Nat.mul_comm]
      exact h4
  | fdiv =>
    cases d1 <;> cases d2 <;> try (cases e; done)
    cases rq_int r1; cases rq_int r2
    obtain ⟨h1, rfl⟩ := grd_some e
    unfold divOk at h1
    rw [Bool.and_eq_true, Bool.or_eq_true, decide_eq_true_eq, decide_eq_true_eq, decide_eq_true_eq] at h1
    rcases h1 with ⟨h1, h2 | h2⟩
    · exact op_fdiv pins s σ H _ _ v u Q I rx ry ⟨_, _, rfl, rfl, ⟨h1, h2⟩, k.1 _ rfl⟩
    · exact op_fdivW pins s σ H _ _ v u Q I rx ry ⟨_, _, rfl, rfl, ⟨h1, h2⟩, k.1 _ rfl⟩
  | mod =>
    cases d1 <;> cases d2 <;> try (cases e; done)
    cases rq_int r1; cases rq_int r2
    obtain ⟨h1, rfl⟩ := grd_some e
    exact op_mod pins s σ H _ _ v u Q I rx ry ⟨_, _, rfl, rfl, of_decide_eq_true h1, k.1 _ rfl⟩
  | pow =>
    cases d1 <;> cases d2 <;> try (cases e; done)
    cases rq_int r1; cases rq_int r2
    obtain ⟨h1, rfl⟩ := grd_some e
    unfold powOk at h1
    rw [decide_eq_true_eq] at h1
    exact op_pow pins s σ H _ _ v u Q I rx ry ⟨_, _, rfl, rfl, h1, k.1 _ rfl⟩
  | shl =>
    cases d1 <;> cases d2 <;> try (cases e; done)
    cases rq_int r1; cases rq_int r2
    obtain ⟨h1, rfl⟩ := grd_some e
    unfold powOk at h1
    rw [decide_eq_true_eq] at h1
    exact op_shl pins s σ H _ _ v u Q I rx ry ⟨_, _, rfl, rfl, h1, k.1 _ rfl⟩
  | shr =>
    cases d1 <;> cases d2 <;> try (cases e; done)
    cases rq_int r1; cases rq_int r2
    obtain ⟨h1, rfl⟩ := grd_some e
    exact op_shr pins s σ H _ _ v u Q I rx ry ⟨_, _, rfl, rfl, of_decide_eq_true h1, k.1 _ rfl⟩
  | band =>
    cases d1 <;> cases d2 <;> try (cases e; done)
    cases rq_int r1; cases rq_int r2; cases e
    exact op_and pins s σ H _ _ v u Q I rx ry ⟨_, _, rfl, rfl, k.1 _ rfl⟩
  | bor =>
    cases d1 <;> cases d2 <;> try (cases e; done)
    cases rq_int r1; cases rq_int r2; cases e
    exact op_or pins s σ H _ _ v u Q I rx ry ⟨_, _, rfl, rfl, k.1 _ rfl⟩
  | bxor =>
    cases d1 <;> cases d2 <;> try (cases e; done)
    cases rq_int r1; cases rq_int r2; cases e
    exact op_xor pins s σ H _ _ v u Q I rx ry ⟨_, _, rfl, rfl, k.1 _ rfl⟩

/-! ### comparisons -/
def rCmp (g : Gd) (op : COp) : R2 := fun x y H Q => ∃ F d1 d2 b, Sub F H ∧ RepQ g true F H d1 x ∧ RepQ g true F H d2 y ∧ cmpD op d1 d2 = some b ∧ Q (.bl b) H
theorem eqD_some {x y : D} {b : Bool} (h : eqD x y = some b) : ∃ p q, x.py = some p ∧ y.py = some q ∧ SeqAt.shaped p = true ∧ SeqAt.shaped q = true ∧ b = PyData.eqv p q := by
  unfold eqD at h
  cases e1 : x.py with
  | none => rw [e1] at h; cases h
  | some p =>
    cases e2 : y.py with
    | none => rw [e1, e2] at h; cases h
    | some q =>
      rw [e1, e2] at h
      obtain ⟨h1, h2⟩ := grd_some h
      rw [Bool.and_eq_true] at h1
      exact ⟨p, q, rfl, rfl, h1.1, h1.2, h2.symm⟩
theorem map_not {o : Option Bool} {b : Bool} (h : o.map (!·) = some b) : ∃ c, o = some c ∧ b = !c := by
  cases o with
  | none => cases h
  | some c => exact ⟨c, rfl, (Option.some.inj h).symm⟩
theorem key_V {g : Gd} {pk : Bool} {F H : Hp} {d : D} {v : V} {k : L2.Key} (h : RepQ g pk F H d v) (e : d.key = some k) : v = kV k := by
  cases d with
  | int i => cases e; exact rq_int h
  | str i => cases e; exact rq_str h
  | _ => cases e
theorem keysOf_V {g : Gd} {F : Hp} : ∀ {ds : List D} {vs : List V} {ks : List L2.Key}, Reps g F ds vs → keysOf ds = some ks → vs = ks.map kV
  | [], vs, ks, h, e => by
    cases (show some [] = some ks from e)
    exact h
  | d :: ds, vs, ks, h, e => by
    obtain ⟨w, ws, rfl, r, t⟩ := h
    have e' : (match d.key, keysOf ds with | some k, some ks => some (k :: ks) | _, _ => none) = some ks := e
    cases e1 : d.key with
    | none => rw [e1] at e'; cases e'
    | some k =>
      cases e2 : keysOf ds with
      | none => rw [e1, e2] at e'; cases e'
      | some ks' =>
        rw [e1, e2] at e'
        cases e'
        rw [key_V (pk := false) (H := F) (.inl r) e1, keysOf_V t e2]
        rfl
theorem lookK_val {κ : Type} [DecidableEq κ] {g : Gd} {F : Hp} (k : κ) : ∀ {ks : List κ} {ds : List D} {vs : List V}, Reps g F ds vs → ks.length = ds.length →
    (lookK ks ds k = none ∧ valV (ks.zip vs) k = none) ∨ ∃ d v, lookK ks ds k = some d ∧ valV (ks.zip vs) k = some v ∧ Rep g F d v
  | [], [], vs, h, l => by
    cases (show vs = [] from h)
    exact .inl ⟨rfl, rfl⟩
  | [], _ :: _, _, _, l => by simp at l
  | _ :: _, [], _, _, l => by simp at l
  | k' :: ks, d :: ds, vs, h, l => by
    obtain ⟨w, ws, rfl, r, t⟩ := h
    by_cases e : k' = k
    · right
      refine ⟨d, w, ?_, ?_, r⟩
      · show (if k' = k then some d else lookK ks ds k) = some d
        rw [if_pos e]
      · rw [List.zip_cons_cons]
        exact valV_pos e
    · have e1 : lookK (k' :: ks) (d :: ds) k = lookK ks ds k := by
        show (if k' = k then some d else lookK ks ds k) = _
        rw [if_neg e]
      have e2 : valV ((k' :: ks).zip (w :: ws)) k = valV (ks.zip ws) k := by
        rw [List.zip_cons_cons]
        exact valV_neg e
      rw [e1, e2]
      exact lookK_val k t (by simpa using l)
theorem ints_len {ds : List D} {is : List Int} : intsOf ds = some is → is.length = ds.length := by
  induction ds generalizing is with
  | nil => intro e; cases e; rfl
  | cons d ds ih =>
    intro e
    cases d with
    | int i =>
      have e' : (intsOf ds).map (i :: ·) = some is := e
      cases q : intsOf ds with
      | none => rw [q] at e'; cases e'
      | some js =>
        rw [q] at e'
        cases e'
        simp [ih q]
    | _ => cases e
theorem tup_ints {g : Gd} {F H : Hp} {ds : List D} {v : V} {is : List Int} (h : RepQ g true F H (.tup ds) v) (s : Sub F H) (e : intsOf ds = some is) : ∃ p, v = .ref p ∧ SqT g.K H p (is.map V.int) := by
  obtain ⟨p, vs, rfl, q, t, l⟩ := rq_tup h s
  rw [t.ints e] at q
  exact ⟨p, rfl, .of q⟩
theorem pys_dp {g : Gd} {F H : Hp} {ds : List D} {vs : List V} {ps : List PyData} (s : Sub F H) (t : Reps g F ds vs) (e : D.pys ds = some ps) : DpAll g.K H vs ps := Reps.dp s ds vs ps t e
theorem op_inTD (hu : X.A.units + 65 < cLine) : OpR X (compareOp .In) (fun x y H Q => ∃ d ds, Dp X.K H x d ∧ Dp X.K H y (.tuple ds) ∧ SeqAt.shaped d = true ∧ SeqAt.shaped (.list ds) = true ∧ Q (.bl (ds.any fun z => PyData.eqv z d)) H) := by
  intro pins s σ H x y v u Q I rx ry h
  obtain ⟨d, ds, hd, he, sd, se, q⟩ := h
  obtain ⟨as, ra⟩ := Dp.reads I d x v hd rx
  obtain ⟨bs, rb⟩ := Dp.reads I (.tuple ds) y u he ry
  exact SeqAt.in_tuple_reads rb ra (SeqAt.canLay_of_shaped se) (SeqAt.canLay_of_shaped sd) (room_in_shaped sd hu) ⟨.bl _, H, I, rfl, q⟩
theorem op_notInTD (hu : X.A.units + 65 < cLine) : OpR X (compareOp .NotIn) (fun x y H Q => ∃ d ds, Dp X.K H x d ∧ Dp X.K H y (.tuple ds) ∧ SeqAt.shaped d = true ∧ SeqAt.shaped (.list ds) = true ∧ Q (.bl (!ds.any fun z => PyData.eqv z d)) H) := by
  intro pins s σ H x y v u Q I rx ry h
  obtain ⟨d, ds, hd, he, sd, se, q⟩ := h
  obtain ⟨as, ra⟩ := Dp.reads I d x v hd rx
  obtain ⟨bs, rb⟩ := Dp.reads I (.tuple ds) y u he ry
  exact SeqAt.notIn_tuple_reads rb ra (SeqAt.canLay_of_shaped se) (SeqAt.canLay_of_shaped sd) (room_in_shaped sd hu) ⟨.bl _, H, I, rfl, q⟩
/-- a dict asked for a key -/
theorem dget_K {g : Gd} {F H : Hp} {ks : List L2.Key} {ds : List D} {x v : V} {dk : D} {k : L2.Key} (sb : Sub F H) (r2 : RepQ g true F H (.dicK ks ds) v) (r1 : RepQ g true F H dk x) (e : dk.key = some k) :
    ∃ p o, v = .ref p ∧ DGet H p x o ∧ o.isSome = (lookK ks ds k).isSome ∧ ∀ d, lookK ks ds k = some d → ∃ w, o = some w ∧ Rep g F d w := by
  obtain ⟨p, vs, rfl, h1, t, n, l, l2⟩ := rq_dicK r2 sb
  rw [key_V r1 e]
  refine ⟨p, _, rfl, DGet.k (k := k) h1, ?_, fun d hd => ?_⟩
  · rcases lookK_val k t l2 with ⟨a, b⟩ | ⟨d, w, a, b, _⟩ <;> rw [a, b] <;> rfl
  · rcases lookK_val k t l2 with ⟨a, b⟩ | ⟨d', w, a, b, r⟩
    · rw [a] at hd; cases hd
    · rw [a] at hd; cases hd
      exact ⟨w, b, r⟩
theorem dget_T {g : Gd} {F H : Hp} {ks : List (List L2.Key)} {ds : List D} {x v : V} {k : List L2.Key} (sb : Sub F H) (r2 : RepQ g true F H (.dicT ks ds) v) (r1 : ∃ q, x = .ref q ∧ H q = some (.tup (k.map kV))) :
    ∃ p o, v = .ref p ∧ DGet H p x o ∧ o.isSome = (lookK ks ds k).isSome ∧ ∀ d, lookK ks ds k = some d → ∃ w, o = some w ∧ Rep g F d w := by
  obtain ⟨p, vs, rfl, h1, t, n, l, l2⟩ := rq_dicT r2 sb
  obtain ⟨q, rfl, hq⟩ := r1
  refine ⟨p, _, rfl, DGet.t (k := k) h1 hq, ?_, fun d hd => ?_⟩
  · rcases lookK_val k t l2 with ⟨a, b⟩ | ⟨d, w, a, b, _⟩ <;> rw [a, b] <;> rfl
  · rcases lookK_val k t l2 with ⟨a, b⟩ | ⟨d', w, a, b, r⟩
    · rw [a] at hd; cases hd
    · rw [a] at hd; cases hd
      exact ⟨w, b, r⟩
theorem in_dict_run (hu : X.A.units + 1 < cLine) {pins : List (Addr × Obj)} {s : Shared} {σ : L2.St} {H : Hp} {x : V} {v : Value} {p : Addr} {o : Option V} {Q : VK} (I : Inv X pins σ H s) (g : DGet H p x o) (rx : RelV x v) (q : Q (.bl o.isSome) H) :
    wpAny (model X.prog X.w) X.A (compareOp .In v (.ref p)) (EP X pins σ Q) X.xe s := d_in hu I g rx fun s' I' => ⟨.bl _, H, I', rfl, q⟩
theorem notIn_dict_run (hu : X.A.units + 1 < cLine) {pins : List (Addr × Obj)} {s : Shared} {σ : L2.St} {H : Hp} {x : V} {v : Value} {p : Addr} {o : Option V} {Q : VK} (I : Inv X pins σ H s) (g : DGet H p x o) (rx : RelV x v) (q : Q (.bl (!o.isSome)) H) :
    wpAny (model X.prog X.w) X.A (compareOp .NotIn v (.ref p)) (EP X pins σ Q) X.xe s := d_notIn hu I g rx fun s' I' => ⟨.bl _, H, I', rfl, q⟩
theorem one_sign {z : Str} {c : Nat} (h : z.cps.toList = [c]) : z = ⟨#[c]⟩ := by
  obtain ⟨⟨l⟩⟩ := z
  simp only at h
  rw [h]
theorem run_in (hu : X.A.units + 65 < cLine) {pins : List (Addr × Obj)} {s : Shared} {σ : L2.St} {H F : Hp} {x y : V} {v u : Value} {Q : VK} {d1 d2 : D} {b : Bool} (I : Inv X pins σ H s) (rx : RelV x v) (ry : RelV y u) (sb : Sub F H)
    (r1 : RepQ (gd X ad) true F H d1 x) (r2 : RepQ (gd X ad) true F H d2 y) (e : inD d1 d2 = some b) (k : Q (.bl b) H) : wpAny (model X.prog X.w) X.A (compareOp .In v u) (EP X pins σ Q) X.xe s := by
  cases d2 with
  | str z =>
    cases d1 <;> try (cases e; done)
    rename_i w
    have e' : (match w.cps.toList with | [c] => some (decide (c ∈ z.cps.toList)) | _ => none) = some b := e
    split at e'
    · rename_i c hc
      cases e'
      cases rq_str r1; cases rq_str r2
      rw [one_sign hc] at rx
      exact op_in_sign pins s σ H _ _ v u Q I rx ry ⟨c, z, rfl, rfl, k⟩
    · cases e'
  | lst ds =>
    have e' : (match d1.py, D.pys ds with | some a, some bs => grd (SeqAt.shaped a && SeqAt.shaped (.list bs)) (bs.any fun z => PyData.eqv z a) | _, _ => none) = some b := by
      cases d1 <;> exact e
    cases e1 : d1.py with
    | none => rw [e1] at e'; cases e'
    | some a =>
      cases e2 : D.pys ds with
      | none => rw [e1, e2] at e'; cases e'
      | some bs =>
        rw [e1, e2] at e'
        obtain ⟨h1, rfl⟩ := grd_some e'
        rw [Bool.and_eq_true] at h1
        have e3 : (D.lst ds).py = some (.list bs) := by
          show (D.pys ds).map PyData.list = _
          rw [e2]
          rfl
        exact op_inD hu pins s σ H _ _ v u Q I rx ry ⟨a, bs, rq_dp r1 sb e1, rq_dp r2 sb e3, h1.1, h1.2, k⟩
  | tup ds =>
    have e' : (match d1.py, D.pys ds with | some a, some bs => grd (SeqAt.shaped a && SeqAt.shaped (.list bs)) (bs.any fun z => PyData.eqv z a) | _, _ => none) = some b := by
      cases d1 <;> exact e
    cases e1 : d1.py with
    | none => rw [e1] at e'; cases e'
    | some a =>
      cases e2 : D.pys ds with
      | none => rw [e1, e2] at e'; cases e'
      | some bs =>
        rw [e1, e2] at e'
        obtain ⟨h1, rfl⟩ := grd_some e'
        rw [Bool.and_eq_true] at h1
        have e3 : (D.tup ds).py = some (.tuple bs) := by
          show (D.pys ds).map PyData.tuple = _
          rw [e2]
          rfl
        exact op_inTD hu pins s σ H _ _ v u Q I rx ry ⟨a, bs, rq_dp r1 sb e1, rq_dp r2 sb e3, h1.1, h1.2, k⟩
  | dicK ks ds =>
    have e' : (match d1.key with | some k => some (lookK ks ds k).isSome | none => none) = some b := by
      cases d1 <;> exact e
    cases e1 : d1.key with
    | none => rw [e1] at e'; cases e'
    | some kk =>
      rw [e1] at e'
      cases e'
      obtain ⟨p, o, rfl, g, z, _⟩ := dget_K sb r2 r1 e1
      rw [← z] at k
      cases (show u = Value.ref p from ry)
      exact in_dict_run (by omega) I g rx k
  | dicT ks ds =>
    cases d1 <;> try (cases e; done)
    rename_i es
    have e' : (match keysOf es with | some k => some (lookK ks ds k).isSome | none => none) = some b := e
    cases e1 : keysOf es with
    | none => rw [e1] at e'; cases e'
    | some kk =>
      rw [e1] at e'
      cases e'
      obtain ⟨q, vs, rfl, hq, t, _⟩ := rq_tup r1 sb
      rw [keysOf_V t e1] at hq
      obtain ⟨p, o, rfl, g, z, _⟩ := dget_T sb r2 ⟨q, rfl, hq⟩
      rw [← z] at k
      cases (show u = Value.ref p from ry)
      exact in_dict_run (by omega) I g rx k
  | _ => cases d1 <;> cases e
theorem run_notin (hu : X.A.units + 65 < cLine) {pins : List (Addr × Obj)} {s : Shared} {σ : L2.St} {H F : Hp} {x y : V} {v u : Value} {Q : VK} {d1 d2 : D} {c : Bool} (I : Inv X pins σ H s) (rx : RelV x v) (ry : RelV y u) (sb : Sub F H)
    (r1 : RepQ (gd X ad) true F H d1 x) (r2 : RepQ (gd X ad) true F H d2 y) (e : inD d1 d2 = some c) (k : Q (.bl (!c)) H) : wpAny (model X.prog X.w) X.A (compareOp .NotIn v u) (EP X pins σ Q) X.xe s := by
  cases d2 with
  | str z =>
    cases d1 <;> try (cases e; done)
    rename_i w
    have e' : (match w.cps.toList with | [c] => some (decide (c ∈ z.cps.toList)) | _ => none) = some c := e
    split at e'
    · rename_i cc hc
      cases e'
      cases rq_str r1; cases rq_str r2
      rw [one_sign hc] at rx
      exact op_notIn_sign pins s σ H _ _ v u Q I rx ry ⟨cc, z, rfl, rfl, k⟩
    · cases e'
  | lst ds =>
    have e' : (match d1.py, D.pys ds with | some a, some bs => grd (SeqAt.shaped a && SeqAt.shaped (.list bs)) (bs.any fun z => PyData.eqv z a) | _, _ => none) = some c := by
      cases d1 <;> exact e
    cases e1 : d1.py with
    | none => rw [e1] at e'; cases e'
    | some a =>
      cases e2 : D.pys ds with
      | none => rw [e1, e2] at e'; cases e'
      | some bs =>
        rw [e1, e2] at e'
        obtain ⟨h1, rfl⟩ := grd_some e'
        rw [Bool.and_eq_true] at h1
        have e3 : (D.lst ds).py = some (.list bs) := by
          show (D.pys ds).map PyData.list = _
          rw [e2]
          rfl
        exact op_notInD hu pins s σ H _ _ v u Q I rx ry ⟨a, bs, rq_dp r1 sb e1, rq_dp r2 sb e3, h1.1, h1.2, k⟩
  | tup ds =>
    have e' : (match d1.py, D.pys ds with | some a, some bs => grd (SeqAt.shaped a && SeqAt.shaped (.list bs)) (bs.any fun z => PyData.eqv z a) | _, _ => none) = some c := by
      cases d1 <;> exact e
    cases e1 : d1.py with
    | none => rw [e1] at e'; cases e'
    | some a =>
      cases e2 : D.pys ds with
      | none => rw [e1, e2] at e'; cases e'
      | some bs =>
        rw [e1, e2] at e'
        obtain ⟨h1, rfl⟩ := grd_some e'
        rw [Bool.and_eq_true] at h1
        have e3 : (D.tup ds).py = some (.tuple bs) := by
          show (D.pys ds).map PyData.tuple = _
          rw [e2]
          rfl
        exact op_notInTD hu pins s σ H _ _ v u Q I rx ry ⟨a, bs, rq_dp r1 sb e1, rq_dp r2 sb e3, h1.1, h1.2, k⟩
  | dicK ks ds =>
    have e' : (match d1.key with | some k => some (lookK ks ds k).isSome | none => none) = some c := by
      cases d1 <;> exact e
    cases e1 : d1.key with
    | none => rw [e1] at e'; cases e'
    | some kk =>
      rw [e1] at e'
      cases e'
      obtain ⟨p, o, rfl, g, z, _⟩ := dget_K sb r2 r1 e1
      rw [← z] at k
      cases (show u = Value.ref p from ry)
      exact notIn_dict_run (by omega) I g rx k
  | dicT ks ds =>
    cases d1 <;> try (cases e; done)
    rename_i es
    have e' : (match keysOf es with | some k => some (lookK ks ds k).isSome | none => none) = some c := e
    cases e1 : keysOf es with
    | none => rw [e1] at e'; cases e'
    | some kk =>
      rw [e1] at e'
      cases e'
      obtain ⟨q, vs, rfl, hq, t, _⟩ := rq_tup r1 sb
      rw [keysOf_V t e1] at hq
      obtain ⟨p, o, rfl, g, z, _⟩ := dget_T sb r2 ⟨q, rfl, hq⟩
      rw [← z] at k
      cases (show u = Value.ref p from ry)
      exact notIn_dict_run (by omega) I g rx k
  | _ => cases d1 <;> cases e
theorem op_cm (op : COp) (hu : X.A.units + 65 < cLine) : OpR X (compareOp (pyCm op)) (rCmp (gd X ad) op) := by
  intro pins s σ H x y v u Q I rx ry h
  obtain ⟨F, d1, d2, b, sb, r1, r2, e, k⟩ := h
  have hu0 : X.A.units < cLine := by omega
  cases op with
  | eq =>
    obtain ⟨p, q, e1, e2, s1, s2, rfl⟩ := eqD_some e
    exact op_eqD (by omega) pins s σ H _ _ v u Q I rx ry ⟨p, q, rq_dp r1 sb e1, rq_dp r2 sb e2, s1, s2, k⟩
  | ne =>
    obtain ⟨c, ec, rfl⟩ := map_not e
    obtain ⟨p, q, e1, e2, s1, s2, rfl⟩ := eqD_some ec
    exact op_neD (by omega) pins s σ H _ _ v u Q I rx ry ⟨p, q, rq_dp r1 sb e1, rq_dp r2 sb e2, s1, s2, k⟩
  | lt =>
    cases d1 <;> cases d2 <;> try (cases e; done)
    · cases rq_int r1; cases rq_int r2; cases e
      exact op_lt pins s σ H _ _ v u Q I rx ry ⟨_, _, rfl, rfl, k⟩
    · cases rq_str r1; cases rq_str r2; cases e
      exact op_lt_str pins s σ H _ _ v u Q I rx ry ⟨_, _, rfl, rfl, k⟩
    · rename_i xs ys
      have e' : (match intsOf xs, intsOf ys with | some a, some b => some (HT.lexLt a b) | _, _ => none) = some b := e
      cases e1 : intsOf xs with
      | none => rw [e1] at e'; cases e'
      | some i1 =>
        cases e2 : intsOf ys with
        | none => rw [e1, e2] at e'; cases e'
        | some i2 =>
          rw [e1, e2] at e'
          cases e'
          obtain ⟨p, rfl, h1⟩ := tup_ints r1 sb e1
          obtain ⟨q, rfl, h2⟩ := tup_ints r2 sb e2
          exact op_ltT hu0 pins s σ H _ _ v u Q I rx ry ⟨p, q, i1, i2, rfl, rfl, h1, h2, k⟩
  | le =>
    cases d1 <;> cases d2 <;> try (cases e; done)
    · cases rq_int r1; cases rq_int r2; cases e
      exact op_le pins s σ H _ _ v u Q I rx ry ⟨_, _, rfl, rfl, k⟩
    · cases rq_str r1; cases rq_str r2; cases e
      exact op_le_str pins s σ H _ _ v u Q I rx ry ⟨_, _, rfl, rfl, k⟩
  | gt =>
    cases d1 <;> cases d2 <;> try (cases e; done)
    · cases rq_int r1; cases rq_int r2; cases e
      exact op_gt pins s σ H _ _ v u Q I rx ry ⟨_, _, rfl, rfl, k⟩
    · cases rq_str r1; cases rq_str r2; cases e
      exact op_gt_str pins s σ H _ _ v u Q I rx ry ⟨_, _, rfl, rfl, k⟩
  | ge =>
    cases d1 <;> cases d2 <;> try (cases e; done)
    · cases rq_int r1; cases rq_int r2; cases e
      exact op_ge pins s σ H _ _ v u Q I rx ry ⟨_, _, rfl, rfl, k⟩
    · cases rq_str r1; cases rq_str r2; cases e
      exact op_ge_str pins s σ H _ _ v u Q I rx ry ⟨_, _, rfl, rfl, k⟩
  | is =>
    cases d1 <;> cases d2 <;> try (cases e; done)
    cases rq_bl r1; cases rq_bl r2; cases e
    exact op_isBl pins s σ H _ _ v u Q I rx ry ⟨_, _, rfl, rfl, k⟩
  | isnot =>
    cases d1 <;> cases d2 <;> try (cases e; done)
    cases rq_bl r1; cases rq_bl r2; cases e
    exact op_notBl pins s σ H _ _ v u Q I rx ry ⟨_, _, rfl, rfl, k⟩
  | in_ => exact run_in hu I rx ry sb r1 r2 e k
  | notin =>
    obtain ⟨c, ec, rfl⟩ := map_not e
    exact run_notin hu I rx ry sb r1 r2 ec k

/-! ### places, slices -/
def rIx' (g : Gd) : R2 := fun x y H Q => ∃ F d1 d2 d, Sub F H ∧ RepQ g true F H d1 x ∧ RepQ g true F H d2 y ∧ ixD d1 d2 = some d ∧ ∀ v, Rep g F d v → Q v H
theorem atI_rep {g : Gd} {F : Hp} {ds : List D} {vs : List V} {i : Int} {d : D} (t : Reps g F ds vs) (e : atI ds i = some d) : ∃ v, atI vs i = some v ∧ Rep g F d v := by
  unfold atI at e ⊢
  rw [t.len]
  cases q : ixN ds.length i with
  | none => rw [q] at e; cases e
  | some j =>
    rw [q] at e
    exact t.get e
theorem isTup_of {pins : List (Addr × Obj)} {σ : L2.St} {H : Hp} {s : Shared} {p : Addr} {o : Option V} {x : V} (I : Inv X pins σ H s) (g : DGet H p x o) : s.TypeIs (.ref p) "dict" := dict_typeIs I g
theorem ix_any (hu : X.A.units + 1 < cLine) : IxR X (rIx' (gd X ad)) := by
  intro value slice pins s σ H x y v u Q I rx ry h hs
  obtain ⟨F, d1, d2, d, sb, r1, r2, e, k⟩ := h
  cases d1 with
  | tup ds =>
    cases d2 <;> try (cases e; done)
    obtain ⟨p, vs, rfl, h1, t, l⟩ := rq_tup r1 sb
    cases rq_int r2
    obtain ⟨w, e1, r⟩ := atI_rep t e
    exact ix_tup value slice pins s σ H _ _ v u Q I rx ry ⟨p, vs, _, w, rfl, rfl, .of h1, e1, k w r⟩ hs
  | lst ds =>
    cases d2 <;> try (cases e; done)
    obtain ⟨p, vs, rfl, h1, t, l⟩ := rq_lst r1 sb
    cases rq_int r2
    obtain ⟨w, e1, r⟩ := atI_rep t e
    exact ix_list value slice pins s σ H _ _ v u Q I rx ry ⟨p, vs, _, w, rfl, rfl, .of h1, e1, k w r⟩ hs
  | ilst is =>
    cases d2 <;> try (cases e; done)
    rename_i i
    have e' : (atI is i).map D.int = some d := e
    obtain ⟨p, rfl, h1, l⟩ := rq_ilst r1 sb
    cases rq_int r2
    cases q : atI is i with
    | none => rw [q] at e'; cases e'
    | some z =>
      rw [q] at e'
      cases e'
      have e1 : atI (is.map V.int) i = some (.int z) := by
        unfold atI at q ⊢
        rw [List.length_map]
        cases q2 : ixN is.length i with
        | none => rw [q2] at q; cases q
        | some j =>
          rw [q2] at q
          show (is.map V.int)[j]? = _
          rw [List.getElem?_map]
          have q : is[j]? = some z := q
          rw [q]
          rfl
      exact ix_list value slice pins s σ H _ _ v u Q I rx ry ⟨p, _, _, .int z, rfl, rfl, h1, e1, k _ rfl⟩ hs
  | str z =>
    cases d2 <;> try (cases e; done)
    rename_i i
    have e' : (match szOk z.length, L2.atI z.cps.toList i with | true, some c => some (D.str ⟨#[c]⟩) | _, _ => none) = some d := e
    cases h1 : szOk z.length with
    | false => rw [h1] at e'; cases e'
    | true =>
      cases h2 : L2.atI z.cps.toList i with
      | none => rw [h1, h2] at e'; cases e'
      | some c =>
        rw [h1, h2] at e'
        cases e'
        cases rq_str r1; cases rq_int r2
        exact ix_str value slice pins s σ H _ _ v u Q I rx ry ⟨z, i, c, rfl, rfl, szOk_le h1, h2, k _ rfl⟩ hs
  | dicK ks ds =>
    have e' : (match d2.key with | some k => lookK ks ds k | none => none) = some d := by cases d2 <;> exact e
    cases h1 : d2.key with
    | none => rw [h1] at e'; cases e'
    | some kk =>
      rw [h1] at e'
      obtain ⟨p, o, rfl, g, z, f⟩ := dget_K sb r1 r2 h1
      obtain ⟨w, rfl, r⟩ := f d e'
      cases (show v = Value.ref p from rx)
      exact tail_any (dict_typeIs I g) PySem.F.slot_dict_getitem.lookup (d_getItem hu I g ry fun w' s' I' r' => ⟨w, H, I', r', k w r⟩) hs
  | dicT ks ds =>
    cases d2 <;> try (cases e; done)
    rename_i es
    have e' : (match keysOf es with | some k => lookK ks ds k | none => none) = some d := e
    cases h1 : keysOf es with
    | none => rw [h1] at e'; cases e'
    | some kk =>
      rw [h1] at e'
      obtain ⟨q, vs, rfl, hq, t, _⟩ := rq_tup r2 sb
      rw [keysOf_V t h1] at hq
      obtain ⟨p, o, rfl, g, z, f⟩ := dget_T sb r1 ⟨q, rfl, hq⟩
      obtain ⟨w, rfl, r⟩ := f d e'
      cases (show v = Value.ref p from rx)
      exact tail_any (dict_typeIs I g) PySem.F.slot_dict_getitem.lookup (d_getItem hu I g ry fun w' s' I' r' => ⟨w, H, I', r', k w r⟩) hs
  | _ => cases d2 <;> cases e
def rSl' (g : Gd) : V → Option Int → Option Int → Hp → VK → Prop := fun x lo hi H Q => ∃ F d1 d, Sub F H ∧ RepQ g true F H d1 x ∧ slD d1 lo hi = some d ∧ Kont g F H d Q
theorem cut_eq {g : Gd} {F : Hp} {ds : List D} {vs : List V} (lo hi : Option Int) (t : Reps g F ds vs) : Reps g F (cut ds lo hi) (cutV vs lo hi) := by
  unfold cut cutV
  rw [t.len]
  exact (t.drop _).take _
theorem cut_len {α : Type} (xs : List α) (lo hi : Option Int) : (cut xs lo hi).length ≤ xs.length := by
  unfold cut
  rw [List.length_take, List.length_drop]
  omega
theorem sl_any : SlR X (rSl' (gd X ad)) := by
  intro pins s σ H x v vl vu lo hi sl Q I rx hs pl pu h
  obtain ⟨F, d1, d, sb, r1, e, k⟩ := h
  cases d1 with
  | tup ds =>
    cases (show some (D.tup (cut ds lo hi)) = some d from e)
    obtain ⟨p, vs, rfl, h1, t, l⟩ := rq_tup r1 sb
    have e1 := t.len
    refine sl_tupA pins s σ H _ v vl vu lo hi sl Q I rx hs pl pu ⟨p, vs, rfl, .of h1, fun z => ?_, fun z q hq => k.2 _ _ hq (rep_tup (sb.free hq) (cut_eq lo hi t) (Nat.le_trans (cut_len ds lo hi) l))⟩
    refine k.1 _ ?_
    rw [e1] at z
    have e2 : cut ds lo hi = ds := by
      unfold cut
      rw [z.1, z.2, List.drop_zero, Nat.sub_zero, List.take_length]
    rw [e2]
    rcases r1 with r1 | ⟨_, _, _, _, z⟩
    · exact r1
    · exact z.elim
  | lst ds =>
    cases (show some (D.lst (cut ds lo hi)) = some d from e)
    obtain ⟨p, vs, rfl, h1, t, l⟩ := rq_lst r1 sb
    exact sl_list pins s σ H _ v vl vu lo hi sl Q I rx hs pl pu ⟨p, vs, rfl, .of h1, fun q hq => k.fresh sb _ _ hq (own_lst (cut_eq lo hi t) (Nat.le_trans (cut_len ds lo hi) l))⟩
  | str z =>
    obtain ⟨h1, rfl⟩ := grd_some (show grd (szOk z.length) (D.str ⟨(cut z.cps.toList lo hi).toArray⟩) = some d from e)
    cases rq_str r1
    refine sl_str pins s σ H _ v vl vu lo hi sl Q I rx hs pl pu ⟨z, rfl, szOk_le h1, ?_⟩
    have e2 : cutS z lo hi = ⟨(cut z.cps.toList lo hi).toArray⟩ := by
      unfold cutS cut
      rw [show z.cps.toList.length = z.length from Array.length_toList]
    rw [e2]
    exact k.1 _ rfl
  | _ => cases e
end
end Cr
/-! Built-ins and methods upon trees. -/
namespace Cr
open PySem PySem.Spec PyProof.Rows L2

def RepsQ (g : Gd) (F H : Hp) : List D → List V → Prop
  | [], vs => vs = []
  | d :: ds, vs => ∃ w ws, vs = w :: ws ∧ RepQ g true F H d w ∧ RepsQ g F H ds ws
def biNm : BI → Str
  | .len => "len" | .abs => "abs" | .max => "max" | .min => "min" | .sum => "sum" | .all => "all" | .any => "any" | .int => "int" | .list => "list" | .tuple => "tuple"
  | .sorted => "sorted" | .str => "str" | .reversed => "reversed" | .set => "set" | .dict => "dict" | .bool => "bool"
def biV : BI → Value
  | .len => .builtin "len" | .abs => .builtin "abs" | .max => .builtin "max" | .min => .builtin "min" | .sum => .builtin "sum" | .all => .builtin "all" | .any => .builtin "any"
  | .int => .type "int" | .list => .type "list" | .tuple => .type "tuple" | .sorted => .builtin "sorted" | .str => .type "str" | .reversed => .type "reversed" | .set => .type "set" | .dict => .type "dict" | .bool => .type "bool"
theorem biV_ok : ∀ b : BI, bootBuiltins (biNm b) = some (biV b) := by
  intro b
  cases b <;> decide +kernel

/-! ### sorting -/
theorem insI_perm (x : Int) : ∀ l : List Int, (insI x l).Perm (x :: l)
  | [] => .refl _
  | y :: r => by
    unfold insI
    split
    · exact .refl _
    · exact ((insI_perm x r).cons y).trans (.swap x y r)
theorem sortI_perm : ∀ l : List Int, (sortI l).Perm l
  | [] => .refl _
  | x :: r => (insI_perm x (sortI r)).trans ((sortI_perm r).cons x)
theorem insI_srt (x : Int) : ∀ l : List Int, l.Pairwise (· ≤ ·) → (insI x l).Pairwise (· ≤ ·)
  | [], _ => by simp [insI]
  | y :: r, h => by
    unfold insI
    obtain ⟨h1, h2⟩ := List.pairwise_cons.mp h
    split
    · rename_i hx
      refine List.pairwise_cons.mpr ⟨fun z hz => ?_, h⟩
      rcases List.mem_cons.mp hz with rfl | hz
      · exact hx
      · have := h1 z hz
        omega
    · rename_i hx
      refine List.pairwise_cons.mpr ⟨fun z hz => ?_, insI_srt x r h2⟩
      rcases List.mem_cons.mp ((insI_perm x r).mem_iff.mp hz) with rfl | hz
      · omega
      · exact h1 z hz
theorem sortI_srt : ∀ l : List Int, (sortI l).Pairwise (· ≤ ·)
  | [] => .nil
  | x :: r => insI_srt x _ (sortI_srt r)
theorem sortI_uniq {a l : List Int} (hp : a.Perm l) (h : a.Pairwise (· ≤ ·)) : a = sortI l := PySem.W.ksm_same (hp.trans (sortI_perm l).symm) h (sortI_srt l)

theorem foldl_max : ∀ (l : List Int) (a : Int), (l.foldl max a = a ∨ l.foldl max a ∈ l) ∧ a ≤ l.foldl max a ∧ ∀ y ∈ l, y ≤ l.foldl max a
  | [], a => ⟨.inl rfl, Int.le_refl _, fun _ h => by cases h⟩
  | x :: l, a => by
    obtain ⟨h1, h2, h3⟩ := foldl_max l (max a x)
    rw [List.foldl_cons]
    refine ⟨?_, by omega, fun y hy => ?_⟩
    · rcases h1 with h1 | h1
      · rw [h1]
        by_cases h : a ≤ x
        · right
          rw [show max a x = x by omega]
          exact List.mem_cons_self
        · left
          omega
      · exact .inr (List.mem_cons_of_mem _ h1)
    · rcases List.mem_cons.mp hy with rfl | hy
      · omega
      · exact h3 y hy
theorem foldl_min : ∀ (l : List Int) (a : Int), (l.foldl min a = a ∨ l.foldl min a ∈ l) ∧ l.foldl min a ≤ a ∧ ∀ y ∈ l, l.foldl min a ≤ y
  | [], a => ⟨.inl rfl, Int.le_refl _, fun _ h => by cases h⟩
  | x :: l, a => by
    obtain ⟨h1, h2, h3⟩ := foldl_min l (min a x)
    rw [List.foldl_cons]
    refine ⟨?_, by omega, fun y hy => ?_⟩
    · rcases h1 with h1 | h1
      · rw [h1]
        by_cases h : x ≤ a
        · right
          rw [show min a x = x by omega]
          exact List.mem_cons_self
        · left
          omega
      · exact .inr (List.mem_cons_of_mem _ h1)
    · rcases List.mem_cons.mp hy with rfl | hy
      · omega
      · exact h3 y hy
section
variable {X : Cx} {ad : Option Addr}
theorem one_of {g : Gd} {F H : Hp} {d : D} {xs : List V} (h : RepsQ g F H [d] xs) : ∃ v, xs = [v] ∧ RepQ g true F H d v := by
  obtain ⟨w, ws, rfl, r, t⟩ := h
  cases (show ws = [] from t)
  exact ⟨w, rfl, r⟩
theorem two_of {g : Gd} {F H : Hp} {d e : D} {xs : List V} (h : RepsQ g F H [d, e] xs) : ∃ v w, xs = [v, w] ∧ RepQ g true F H d v ∧ RepQ g true F H e w := by
  obtain ⟨v, vs, rfl, r, t⟩ := h
  obtain ⟨w, rfl, r2⟩ := one_of t
  exact ⟨v, w, rfl, r, r2⟩
theorem repsQ_of {g : Gd} {F H : Hp} : ∀ {ds : List D} {xs : List V}, Reps g F ds xs → RepsQ g F H ds xs
  | [], _, h => h
  | d :: ds, _, h => by
    obtain ⟨w, ws, e, r, t⟩ := h
    exact ⟨w, ws, e, .inl r, repsQ_of t⟩
theorem twoS {g : Gd} {F H : Hp} {d e : D} {xs : List V} (h : Reps g F [d, e] xs) : ∃ v w, xs = [v, w] ∧ RepQ g true F H d v ∧ RepQ g false F H e w := by
  obtain ⟨v, vs, rfl, r, w, ws, rfl, r2, t⟩ := h
  cases (show ws = [] from t)
  exact ⟨v, w, rfl, .inl r, .inl r2⟩
def rBlt (g : Gd) (f : BI) : List V → Hp → VK → Prop := fun xs H Q => ∃ F ds d, Sub F H ∧ RepsQ g F H ds xs ∧ bltD f ds = some d ∧ Kont g F H d Q
theorem lst_ints {g : Gd} {F H : Hp} {ds : List D} {v : V} {is : List Int} (h : RepQ g true F H (.lst ds) v) (s : Sub F H) (e : intsOf ds = some is) : ∃ p, v = .ref p ∧ H p = some (.lst (is.map V.int)) := by
  obtain ⟨p, vs, rfl, q, t, l⟩ := rq_lst h s
  rw [t.ints e] at q
  exact ⟨p, rfl, q⟩
theorem lst_bls {g : Gd} {F H : Hp} {ds : List D} {v : V} {is : List Bool} (h : RepQ g true F H (.lst ds) v) (s : Sub F H) (e : blsOf ds = some is) : ∃ p, v = .ref p ∧ H p = some (.lst (is.map V.bl)) := by
  obtain ⟨p, vs, rfl, q, t, l⟩ := rq_lst h s
  rw [t.bls e] at q
  exact ⟨p, rfl, q⟩
theorem lst_strs {g : Gd} {F H : Hp} {ds : List D} {v : V} {is : List Str} (h : RepQ g true F H (.lst ds) v) (s : Sub F H) (e : strsOf ds = some is) : ∃ p, v = .ref p ∧ H p = some (.lst (is.map V.str)) := by
  obtain ⟨p, vs, rfl, q, t, l⟩ := rq_lst h s
  rw [t.strs e] at q
  exact ⟨p, rfl, q⟩
theorem zip_len {κ : Type} {ks : List κ} {vs : List V} (h : ks.length = vs.length) : (ks.zip vs).length = ks.length := by
  rw [List.length_zip]
  omega
/-- which calls: a name, a row of arguments -/
theorem call_blt (hc : X.calm = true) (f : BI) : CallR X (biV f) (rBlt (gd X ad) f) := by
  intro pins s σ H xs us Q I r h
  obtain ⟨F, ds, d, sb, rs, e, k⟩ := h
  cases f with
  | len =>
    cases ds with
    | nil => cases e
    | cons d1 t =>
      cases t with
      | cons _ _ => cases d1 <;> cases e
      | nil =>
        obtain ⟨v, rfl, r1⟩ := one_of rs
        cases d1 with
        | str z =>
          obtain ⟨h1, rfl⟩ := grd_some (show grd (szOk z.length) (D.int z.length) = some d from e)
          cases rq_str r1
          exact call_len_str pins s σ H _ us Q I r ⟨z, rfl, szOk_le h1, k.1 _ rfl⟩
        | tup es =>
          cases (show some (D.int es.length) = some d from e)
          obtain ⟨p, vs, rfl, h1, t, l⟩ := rq_tup r1 sb
          refine call_len_seq pins s σ H _ us Q I r ⟨p, vs, rfl, .inr (.of h1), ?_⟩
          rw [t.len]
          exact k.1 _ rfl
        | lst es =>
          cases (show some (D.int es.length) = some d from e)
          obtain ⟨p, vs, rfl, h1, t, l⟩ := rq_lst r1 sb
          refine call_len_seq pins s σ H _ us Q I r ⟨p, vs, rfl, .inl (.of h1), ?_⟩
          rw [t.len]
          exact k.1 _ rfl
        | dicK ks es =>
          cases (show some (D.int ks.length) = some d from e)
          obtain ⟨p, vs, rfl, h1, t, n, l, l2⟩ := rq_dicK r1 sb
          refine call_lenD pins s σ H _ us Q I r ⟨p, _, rfl, h1, ?_⟩
          rw [zip_len (by rw [t.len]; exact l2)]
          exact k.1 _ rfl
        | ilst is =>
          cases (show some (D.int is.length) = some d from e)
          obtain ⟨p, rfl, h1, l⟩ := rq_ilst r1 sb
          refine call_len_seq pins s σ H _ us Q I r ⟨p, _, rfl, .inl h1, ?_⟩
          rw [List.length_map]
          exact k.1 _ rfl
        | _ => cases e
  | abs =>
    cases ds with
    | nil => cases e
    | cons d1 t =>
      cases t with
      | cons _ _ => cases d1 <;> cases e
      | nil =>
        obtain ⟨v, rfl, r1⟩ := one_of rs
        cases d1 <;> try (cases e; done)
        cases rq_int r1; cases e
        exact call_abs pins s σ H _ us Q I r ⟨_, rfl, k.1 _ rfl⟩
  | max =>
    cases ds with
    | nil => cases e
    | cons d1 t =>
      cases t with
      | nil =>
        obtain ⟨v, rfl, r1⟩ := one_of rs
        cases d1 <;> try (cases e; done)
        rename_i es
        have e' : (match intsOf es with | some is => (maxI is).map D.int | none => none) = some d := e
        cases q : intsOf es with
        | none => rw [q] at e'; cases e'
        | some is =>
          rw [q] at e'
          obtain ⟨p, rfl, h1⟩ := lst_ints r1 sb q
          cases is with
          | nil => cases e'
          | cons i is =>
            cases (show some (D.int (is.foldl max i)) = some d from e')
            obtain ⟨m1, m2, m3⟩ := foldl_max is i
            refine cr_max hc pins s σ H _ us Q I r ⟨p, i :: is, rfl, .of h1, by simp, fun m hm hy => ?_⟩
            have h2 : is.foldl max i ∈ i :: is := by
              rcases m1 with m1 | m1
              · rw [m1]; exact List.mem_cons_self
              · exact List.mem_cons_of_mem _ m1
            have h3 := hy _ h2
            have h4 : m ≤ is.foldl max i := by
              rcases List.mem_cons.mp hm with rfl | hm
              · exact m2
              · exact m3 _ hm
            rw [show m = is.foldl max i by omega]
            exact k.1 _ rfl
      | cons d2 t =>
        cases t with
        | cons _ _ => cases d1 <;> cases d2 <;> cases e
        | nil =>
          obtain ⟨v, w, rfl, r1, r2⟩ := two_of rs
          cases d1 <;> cases d2 <;> try (cases e; done)
          cases rq_int r1; cases rq_int r2; cases e
          exact call_max2 hc pins s σ H _ us Q I r ⟨_, _, rfl, k.1 _ rfl⟩
  | min =>
    cases ds with
    | nil => cases e
    | cons d1 t =>
      cases t with
      | nil =>
        obtain ⟨v, rfl, r1⟩ := one_of rs
        cases d1 <;> try (cases e; done)
        rename_i es
        have e' : (match intsOf es with | some is => (minI is).map D.int | none => none) = some d := e
        cases q : intsOf es with
        | none => rw [q] at e'; cases e'
        | some is =>
          rw [q] at e'
          obtain ⟨p, rfl, h1⟩ := lst_ints r1 sb q
          cases is with
          | nil => cases e'
          | cons i is =>
            cases (show some (D.int (is.foldl min i)) = some d from e')
            obtain ⟨m1, m2, m3⟩ := foldl_min is i
            refine cr_min hc pins s σ H _ us Q I r ⟨p, i :: is, rfl, .of h1, by simp, fun m hm hy => ?_⟩
            have h2 : is.foldl min i ∈ i :: is := by
              rcases m1 with m1 | m1
              · rw [m1]; exact List.mem_cons_self
              · exact List.mem_cons_of_mem _ m1
            have h3 := hy _ h2
            have h4 : is.foldl min i ≤ m := by
              rcases List.mem_cons.mp hm with rfl | hm
              · exact m2
              · exact m3 _ hm
            rw [show m = is.foldl min i by omega]
            exact k.1 _ rfl
      | cons d2 t =>
        cases t with
        | cons _ _ => cases d1 <;> cases d2 <;> cases e
        | nil =>
          obtain ⟨v, w, rfl, r1, r2⟩ := two_of rs
          cases d1 <;> cases d2 <;> try (cases e; done)
          cases rq_int r1; cases rq_int r2; cases e
          exact call_min2 hc pins s σ H _ us Q I r ⟨_, _, rfl, k.1 _ rfl⟩
  | sum =>
    cases ds with
    | nil => cases e
    | cons d1 t =>
      cases t with
      | cons _ _ => cases d1 <;> cases e
      | nil =>
        obtain ⟨v, rfl, r1⟩ := one_of rs
        cases d1 <;> try (cases e; done)
        rename_i es
        have e' : ((intsOf es).map fun is => D.int is.sum) = some d := e
        cases q : intsOf es with
        | none => rw [q] at e'; cases e'
        | some is =>
          rw [q] at e'
          cases e'
          obtain ⟨p, rfl, h1⟩ := lst_ints r1 sb q
          exact cr_sum hc pins s σ H _ us Q I r ⟨p, is, rfl, .of h1, k.1 _ rfl⟩
  | all =>
    cases ds with
    | nil => cases e
    | cons d1 t =>
      cases t with
      | cons _ _ => cases d1 <;> cases e
      | nil =>
        obtain ⟨v, rfl, r1⟩ := one_of rs
        cases d1 <;> try (cases e; done)
        rename_i es
        have e' : ((blsOf es).map fun is => D.bl (is.all id)) = some d := e
        cases q : blsOf es with
        | none => rw [q] at e'; cases e'
        | some is =>
          rw [q] at e'
          cases e'
          obtain ⟨p, rfl, h1⟩ := lst_bls r1 sb q
          exact cr_all hc pins s σ H _ us Q I r ⟨p, is, rfl, .of h1, k.1 _ rfl⟩
  | any =>
    cases ds with
    | nil => cases e
    | cons d1 t =>
      cases t with
      | cons _ _ => cases d1 <;> cases e
      | nil =>
        obtain ⟨v, rfl, r1⟩ := one_of rs
        cases d1 <;> try (cases e; done)
        rename_i es
        have e' : ((blsOf es).map fun is => D.bl (is.any id)) = some d := e
        cases q : blsOf es with
        | none => rw [q] at e'; cases e'
        | some is =>
          rw [q] at e'
          cases e'
          obtain ⟨p, rfl, h1⟩ := lst_bls r1 sb q
          exact cr_any hc pins s σ H _ us Q I r ⟨p, is, rfl, .of h1, k.1 _ rfl⟩
  | int =>
    cases ds with
    | nil => cases e
    | cons d1 t =>
      cases t with
      | cons _ _ => cases d1 <;> cases e
      | nil =>
        obtain ⟨v, rfl, r1⟩ := one_of rs
        cases d1 <;> try (cases e; done)
        · cases rq_bl r1; cases e
          exact call_int1 pins s σ H _ us Q I r (.inr ⟨_, rfl, k.1 _ rfl⟩)
        · cases rq_int r1; cases e
          exact call_int1 pins s σ H _ us Q I r (.inl ⟨_, rfl, k.1 _ rfl⟩)
  | bool =>
    cases ds with
    | nil => cases e
    | cons d1 t =>
      cases t with
      | cons _ _ => cases d1 <;> cases e
      | nil =>
        obtain ⟨v, rfl, r1⟩ := one_of rs
        cases d1 <;> try (cases e; done)
        cases rq_bl r1; cases e
        exact call_bool1 pins s σ H _ us Q I r (.inr ⟨_, rfl, k.1 _ rfl⟩)
  | list =>
    cases ds with
    | nil => cases e
    | cons d1 t =>
      cases t with
      | cons _ _ => cases d1 <;> cases e
      | nil =>
        obtain ⟨v, rfl, r1⟩ := one_of rs
        cases d1 <;> try (cases e; done)
        · cases e
          obtain ⟨p, vs, rfl, h1, t, l⟩ := rq_tup r1 sb
          exact call_list_of pins s σ H _ us Q I r ⟨p, vs, rfl, .inr (.of h1), fun q hq => k.fresh sb _ _ hq (own_lst t l)⟩
        · cases e
          obtain ⟨p, vs, rfl, h1, t, l⟩ := rq_lst r1 sb
          exact call_list_of pins s σ H _ us Q I r ⟨p, vs, rfl, .inl (.of h1), fun q hq => k.fresh sb _ _ hq (own_lst t l)⟩
  | tuple =>
    cases ds with
    | nil => cases e
    | cons d1 t =>
      cases t with
      | cons _ _ => cases d1 <;> cases e
      | nil =>
        obtain ⟨v, rfl, r1⟩ := one_of rs
        cases d1 <;> try (cases e; done)
        · cases e
          obtain ⟨p, vs, rfl, h1, t, l⟩ := rq_tup r1 sb
          refine call_tuple_of pins s σ H _ us Q I r ⟨p, vs, rfl, .inr ⟨.of h1, k.1 _ ?_⟩⟩
          rcases r1 with r1 | ⟨_, _, _, _, z⟩
          · exact r1
          · exact z.elim
        · cases e
          obtain ⟨p, vs, rfl, h1, t, l⟩ := rq_lst r1 sb
          exact call_tuple_of pins s σ H _ us Q I r ⟨p, vs, rfl, .inl ⟨.of h1, fun q hq => k.2 _ _ hq (rep_tup (sb.free hq) t l)⟩⟩
  | sorted =>
    cases ds with
    | nil => cases e
    | cons d1 t =>
      cases t with
      | cons _ _ => cases d1 <;> cases e
      | nil =>
        obtain ⟨v, rfl, r1⟩ := one_of rs
        cases d1 <;> try (cases e; done)
        rename_i es
        have e' : (sortD es).map D.lst = some d := e
        unfold sortD at e'
        cases q : intsOf es with
        | none => rw [q] at e'; cases e'
        | some is =>
          rw [q] at e'
          cases e'
          have hl := ints_len q
          obtain ⟨p, vs, rfl, h1, t, l⟩ := rq_lst r1 sb
          rw [t.ints q] at h1
          refine cr_sortedI pins s σ H _ us Q I r ⟨p, is, rfl, .of h1, fun ns' q' hp hs hq => ?_⟩
          rw [sortI_uniq hp hs]
          refine k.fresh sb _ _ hq (own_lst (repInts _) ?_)
          rw [List.length_map, (sortI_perm is).length_eq, hl]
          exact l
  | str =>
    cases ds with
    | nil => cases e
    | cons d1 t =>
      cases t with
      | cons _ _ => cases d1 <;> cases e
      | nil =>
        obtain ⟨v, rfl, r1⟩ := one_of rs
        cases d1 <;> try (cases e; done)
        cases rq_int r1
        obtain ⟨h1, rfl⟩ := grd_some e
        exact call_str_int pins s σ H _ us Q I r ⟨_, rfl, of_decide_eq_true h1, k.1 _ rfl⟩
  | reversed => cases ds <;> cases e
  | set => cases ds <;> cases e
  | dict => cases ds <;> cases e

/-! ### isinstance -/
def tyNm : Ty → String
  | .int => "int" | .bool => "bool" | .str => "str" | .tuple => "tuple" | .list => "list" | .dict => "dict"
def rIsi' (g : Gd) (t : Ty) : List V → Hp → VK → Prop := fun xs H Q => ∃ F d x b, Sub F H ∧ xs = [x, .ty (tyNm t)] ∧ RepQ g true F H d x ∧ isiD t d = some b ∧ Q (.bl b) H
theorem call_isi' (t : Ty) : CallR X (.builtin "isinstance") (rIsi' (gd X ad) t) := by
  intro pins s σ H xs us Q I r h
  obtain ⟨F, d, x, b, sb, rfl, r1, e, k⟩ := h
  have fin : ∀ ty : String, TyX X.K H x (.type ty) → kitB ty (tyNm t) = some b → wpAny (model X.prog X.w) X.A (call (.builtin "isinstance") us) (EP X pins σ Q) X.xe s := fun ty hx hk =>
    call_isi pins s σ H _ us Q I r ⟨x, .ty (tyNm t), .type ty, .type (tyNm t), b, rfl, .ty _, hx, kit_ty hk, k⟩
  cases d with
  | non =>
    cases rq_non r1
    exact fin "NoneType" (.base .non) (by cases t <;> cases e <;> decide +kernel)
  | bl c =>
    cases rq_bl r1
    exact fin "bool" (.base (.bl c)) (by cases t <;> cases e <;> decide +kernel)
  | int c =>
    cases rq_int r1
    exact fin "int" (.base (.int c)) (by cases t <;> cases e <;> decide +kernel)
  | str c =>
    cases rq_str r1
    exact fin "str" (.base (.str c)) (by cases t <;> cases e <;> decide +kernel)
  | tup ds =>
    obtain ⟨p, vs, rfl, h1, _⟩ := rq_tup r1 sb
    exact fin "tuple" (.base (.tup h1)) (by cases t <;> cases e <;> decide +kernel)
  | lst ds =>
    obtain ⟨p, vs, rfl, h1, _⟩ := rq_lst r1 sb
    exact fin "list" (.base (.lst h1)) (by cases t <;> cases e <;> decide +kernel)
  | dicK ks ds =>
    obtain ⟨p, vs, rfl, h1, _⟩ := rq_dicK r1 sb
    exact fin "dict" (.base (.dK h1)) (by cases t <;> cases e <;> decide +kernel)
  | dicT ks ds =>
    obtain ⟨p, vs, rfl, h1, _⟩ := rq_dicT r1 sb
    exact fin "dict" (.base (.dT h1)) (by cases t <;> cases e <;> decide +kernel)
  | fn _ => cases t <;> cases e
  | drw => cases t <;> cases e
  | ilst _ => cases t <;> cases e

/-! ### methods -/
def miNm : MI → Str
  | .join => "join" | .get => "get" | .index => "index" | .count => "count" | .startswith => "startswith" | .endswith => "endswith" | .split => "split"
def rMeth (g : Gd) (m : MI) : V → List V → Hp → VK → Prop := fun x xs H Q => ∃ F d0 ds d, Sub F H ∧ RepQ g true F H d0 x ∧ Reps g F ds xs ∧ methD m d0 ds = some d ∧ Kont g F H d Q
theorem mt_join' : MtR X "str.join" (rMeth (gd X ad) .join) := by
  intro pins s σ H x xs v us Q I rx rxs h
  obtain ⟨F, d0, ds, d, sb, r0, rs, e, k⟩ := h
  cases d0 <;> try (cases e; done)
  cases ds with
  | nil => cases e
  | cons d1 t =>
    cases t with
    | cons _ _ => cases d1 <;> cases e
    | nil =>
      obtain ⟨w, rfl, r1⟩ := one_of (H := H) (repsQ_of rs)
      cases d1 <;> try (cases e; done)
      rename_i sep es
      have e' : (match strsOf es with | some ss => grd (decide ((ss.map (·.length)).sum + ss.length * sep.length ≤ 16777216)) (D.str (Str.join sep ss)) | none => none) = some d := e
      cases q : strsOf es with
      | none => rw [q] at e'; cases e'
      | some ss =>
        rw [q] at e'
        obtain ⟨h1, rfl⟩ := grd_some e'
        cases rq_str r0
        obtain ⟨p, rfl, h2⟩ := lst_strs r1 sb q
        refine mt_join pins s σ H _ _ v us Q I rx rxs ⟨sep, p, ss, rfl, rfl, .inl (.of h2), of_decide_eq_true h1, ?_⟩
        rw [TL.join_eq]
        exact k.1 _ rfl
/-- the value there, or the other one; the other one is known to all -/
theorem lastQ {g : Gd} {F H : Hp} {o : Option V} {dd d : D} {w : V} {q : Option D} {Q : VK} (h1 : q = none → o = none) (h2 : ∀ d', q = some d' → ∃ w', o = some w' ∧ Rep g F d' w') (h3 : RepQ g false F H dd w) (h4 : q.getD dd = d) (k : Kont g F H d Q) : Q (o.getD w) H := by
  cases q with
  | none => rw [h1 rfl]; exact k.1 _ (by rw [← h4]; exact h3.rep)
  | some d' =>
    obtain ⟨w', e1, r'⟩ := h2 d' rfl
    rw [e1]
    exact k.1 _ (by rw [← h4]; exact r')
theorem mt_get' (hu : X.A.units + 1 < cLine) : MtR X "dict.get" (rMeth (gd X ad) .get) := by
  intro pins s σ H x xs v us Q I rx rxs h
  obtain ⟨F, d0, ds, d, sb, r0, rs, e, k⟩ := h
  cases d0 with
  | dicK ks ds0 =>
    cases ds with
    | nil => cases e
    | cons d1 t =>
      cases t with
      | nil => cases d1 <;> cases e
      | cons d2 t =>
        cases t with
        | cons _ _ => cases d1 <;> cases e
        | nil =>
          obtain ⟨w1, w2, rfl, r1, r2⟩ := twoS (H := H) rs
          have e' : (match d1.key with | some k => some ((lookK ks ds0 k).getD d2) | none => none) = some d := by cases d1 <;> exact e
          cases h1 : d1.key with
          | none => rw [h1] at e'; cases e'
          | some kk =>
            rw [h1] at e'
            obtain ⟨p, o, rfl, g, z, f⟩ := dget_K sb r0 r1 h1
            cases (show v = Value.ref p from rx)
            cases rxs with
            | cons ry rxs =>
              cases rxs with
              | cons rz rxs =>
                cases rxs
                refine d_get2 hu I g ry rz fun w' s' I' r' => ⟨_, H, I', r', ?_⟩
                refine lastQ (fun h => ?_) f r2 (Option.some.inj e') k
                rw [h] at z
                cases o with
                | none => rfl
                | some _ => cases z
  | dicT ks ds0 =>
    cases ds with
    | nil => cases e
    | cons d1 t =>
      cases t with
      | nil => cases d1 <;> cases e
      | cons d2 t =>
        cases t with
        | cons _ _ => cases d1 <;> cases e
        | nil =>
          obtain ⟨w1, w2, rfl, r1, r2⟩ := twoS (H := H) rs
          cases d1 <;> try (cases e; done)
          rename_i es
          have e' : (match keysOf es with | some k => some ((lookK ks ds0 k).getD d2) | none => none) = some d := e
          cases h1 : keysOf es with
          | none => rw [h1] at e'; cases e'
          | some kk =>
            rw [h1] at e'
            obtain ⟨q, vs, rfl, hq, t, _⟩ := rq_tup r1 sb
            rw [keysOf_V t h1] at hq
            obtain ⟨p, o, rfl, g, z, f⟩ := dget_T sb r0 ⟨q, rfl, hq⟩
            cases (show v = Value.ref p from rx)
            cases rxs with
            | cons ry rxs =>
              cases rxs with
              | cons rz rxs =>
                cases rxs
                refine d_get2 hu I g ry rz fun w' s' I' r' => ⟨_, H, I', r', ?_⟩
                refine lastQ (fun h => ?_) f r2 (Option.some.inj e') k
                rw [h] at z
                cases o with
                | none => rfl
                | some _ => cases z
  | _ => cases e
end
end Cr
/-! What an expression's text comes to, construct by construct. -/
namespace Cr
open PySem PySem.Spec PyProof.Rows L2

def Res.post {α : Type} (r : Res α) (P : α → List Int → Prop) (E : Ex → List Int → Prop) : Prop := match r with
  | .ok a dr => P a dr
  | .exc e dr => E e dr
  | .bad => False
theorem post_bind {α β : Type} {r : Res α} {f : α → List Int → Res β} {P : β → List Int → Prop} {E : Ex → List Int → Prop} (h : (r.bind f).post P E) : r.post (fun a dr => (f a dr).post P E) E := by
  cases r <;> exact h
theorem Res.post.imp {α : Type} {r : Res α} {P P' : α → List Int → Prop} {E E' : Ex → List Int → Prop} (h : r.post P E) (i : ∀ a dr, P a dr → P' a dr) (j : ∀ e dr, E e dr → E' e dr) : r.post P' E' := by
  cases r with
  | ok a dr => exact i _ _ h
  | exc e dr => exact j _ _ h
  | bad => exact h
theorem post_ofO {α : Type} {o : Option α} {dr : List Int} {P : α → List Int → Prop} {E : Ex → List Int → Prop} (h : (ofO o dr).post P E) : ∃ a, o = some a ∧ P a dr := by
  cases o with
  | none => exact False.elim h
  | some a => exact ⟨a, rfl, h⟩

/-- how an error of the trees stands -/
def ExR (g : Gd) (F H : Hp) (e : Ex) (cls : Value) (dd : Option Addr) : Prop := g.mg e.cls = some cls ∧ match e.at_ with
  | none => dd = none
  | some d => ∃ a v, dd = some a ∧ H a = some (.xd [(("at" : Str), v)]) ∧ Rep g F d v

/-- the frame's entry: the known, the heap; what is wished of errors -/
structure En where
  F0 : Hp
  H0 : Hp
  W : WX
abbrev EX (g : Gd) (W : WX) (F H : Hp) (σ : L2.St) : Ex → List Int → Prop := fun e dr' => ∀ cls dd H' F', Post g F H F' H' dr' → ExR g F' H' e cls dd → W cls dd σ H'
theorem EX.step {g : Gd} {W : WX} {F H F1 H1 : Hp} {σ : L2.St} {dr1 : List Int} (a : Post g F H F1 H1 dr1) (e : Ex) (dr : List Int) (h : EX g W F H σ e dr) : EX g W F1 H1 σ e dr := fun cls dd H' F' b x => h cls dd H' F' (a.trans b) x

def tM (g : Gd) (N : En) (pk : Bool) (ev : Env → List Int → Res D) : TE := fun σ H Q => ∃ env F dr, StR g N.F0 N.H0 σ env F H dr ∧
  (ev env dr).post (fun d dr' => ∀ v H' F', Post g F H F' H' dr' → RepQ g pk F' H' d v → Q v H') (EX g N.W F H σ)
/-- a new object of the frame's own -/
def tMF (g : Gd) (N : En) (ev : Env → List Int → Res D) : TE := fun σ H Q => ∃ env F dr, StR g N.F0 N.H0 σ env F H dr ∧
  (ev env dr).post (fun d dr' => ∀ p H' F', Post g F H F' H' dr' → H p = none → F' p = none → OwnR g F' H' p d → Q (.ref p) H') (EX g N.W F H σ)
def tT (g : Gd) (N : En) (ev : Env → List Int → Res Bool) : TT := fun σ H Q => ∃ env F dr, StR g N.F0 N.H0 σ env F H dr ∧
  (ev env dr).post (fun b dr' => ∀ H' F', Post g F H F' H' dr' → Q b H') (EX g N.W F H σ)
def tA (g : Gd) (N : En) (ev : Env → List Int → Res (List D)) : TA := fun σ H Q => ∃ env F dr, StR g N.F0 N.H0 σ env F H dr ∧
  (ev env dr).post (fun ds dr' => ∀ vs H' F', Post g F H F' H' dr' → Reps g F' ds vs → Q vs H') (EX g N.W F H σ)
def tAp (g : Gd) (N : En) (ev : Env → List Int → Res (List D)) : TA := fun σ H Q => ∃ env F dr, StR g N.F0 N.H0 σ env F H dr ∧
  (ev env dr).post (fun ds dr' => ∀ vs H' F', Post g F H F' H' dr' → RepsQ g F' H' ds vs → Q vs H') (EX g N.W F H σ)
def tO (g : Gd) (N : En) (ev : Env → List Int → Res (Option Int)) : TO := fun σ H Q => ∃ env F dr, StR g N.F0 N.H0 σ env F H dr ∧
  (ev env dr).post (fun o dr' => ∀ H' F', Post g F H F' H' dr' → Q o H') (EX g N.W F H σ)

theorem RepsQ.step {g : Gd} {F H F1 H1 : Hp} {dr : List Int} (a : Post g F H F1 H1 dr) : ∀ {ds : List D} {vs : List V}, RepsQ g F H ds vs → RepsQ g F1 H1 ds vs
  | [], _, h => h
  | d :: ds, _, h => by
    obtain ⟨w, ws, e, r, t⟩ := h
    exact ⟨w, ws, e, r.step a, RepsQ.step a t⟩
theorem PEw' {X : Cx} {e : Expr} {t t' : TE} (h : PE X e t) (i : ∀ σ H Q, t' σ H Q → t σ H Q) : PE X e t' := ⟨fun pins s σ H Q I q => h.run pins s σ H Q I (i _ _ _ q)⟩
theorem PTw' {X : Cx} {e : Expr} {t t' : TT} (h : PT X e t) (i : ∀ σ H Q, t' σ H Q → t σ H Q) : PT X e t' := ⟨fun pins s σ H Q I q => h.run pins s σ H Q I (i _ _ _ q)⟩
theorem PWw' {X : Cx} {e : Expr} {t t' : TT} (h : PW X e t) (i : ∀ σ H Q, t' σ H Q → t σ H Q) : PW X e t' := ⟨fun whole pins s σ H Q I q => h.run whole pins s σ H Q I (i _ _ _ q)⟩
theorem PAw' {X : Cx} {e : List Expr} {t t' : TA} (h : PA X e t) (i : ∀ σ H Q, t' σ H Q → t σ H Q) : PA X e t' := ⟨fun pos pins s σ H Q I q => h.run pos pins s σ H Q I (i _ _ _ q)⟩
theorem POw' {X : Cx} {e : Option Expr} {t t' : TO} (h : PO X e t) (i : ∀ σ H Q, t' σ H Q → t σ H Q) : PO X e t' := ⟨fun pins s σ H Q I q => h.run pins s σ H Q I (i _ _ _ q)⟩
theorem PSw' {X : Cx} {st : Stmt} {t t' : TS} (h : PS X st t) (i : ∀ D σ H, t' D σ H → t D σ H) : PS X st t' := ⟨fun pins s σ H D I q => h.run pins s σ H D I (i _ _ _ q)⟩
theorem PSsw' {X : Cx} {st : List Stmt} {t t' : TS} (h : PSs X st t) (i : ∀ D σ H, t' D σ H → t D σ H) : PSs X st t' := ⟨fun pins s σ H D I q => h.run pins s σ H D I (i _ _ _ q)⟩

section
variable {g : Gd} {N : En} {F H F1 H1 : Hp} {dr dr1 : List Int} {d : D} {Q : VK} {pk : Bool}
theorem kont_of (k : ∀ v H' F', Post g F H F' H' dr1 → RepQ g pk F' H' d v → Q v H') (a : Post g F H F1 H1 dr1) : Kont g F1 H1 d Q :=
  ⟨fun v r => k v H1 F1 a (.inl r), fun p o hp r => k _ _ _ (a.alloc hp) (.inl r)⟩
/-- a fresh one is one -/
theorem tMF.tM {ev : Env → List Int → Res D} {σ : L2.St} {H : Hp} {Q : VK} (h : tM g N pk ev σ H Q) : tMF g N ev σ H Q := by
  obtain ⟨env, F, dr, st, h⟩ := h
  refine ⟨env, F, dr, st, h.imp (fun d dr' k p H' F' a hp hf r => ?_) fun _ _ z => z⟩
  obtain ⟨o, ho⟩ := r.there
  have hn : some p ≠ g.ad := st.po.pne hp
  have b : Post g F H (upd F' p o) H' dr' := a.frz hp hf hn ho
  exact k _ H' _ b (.inl (r.rep (sub_upd hf) fun o' e => by rw [ho] at e; cases e; exact upd_same))
end

section
variable {X : Cx} {ad : Option Addr} {N : En} {pk : Bool} {pos : Pos} {e l r : Expr}

theorem m_const {x : V} {d : D} {dd : Env → List Int → Res D} (h : PE X e (tC x)) (r : ∀ F, Rep (gd X ad) F d x) (ev : ∀ env dr, dd env dr = .ok d dr) : PE X e (tM (gd X ad) N pk dd) := PEw' h fun σ H Q ⟨env, F, dr, st, k⟩ => by
  rw [ev] at k
  exact k x H F st.po.self (.inl (r F))
theorem m_var {i : Nat} (h : PE X e (tVar i)) : PE X e (tM (gd X ad) N pk (fun env dr => ofO (if pk then varP (get env i) else varS (get env i)) dr)) := PEw' h fun σ H Q ⟨env, F, dr, st, k⟩ => by
  obtain ⟨d, e1, k⟩ := post_ofO k
  have sl := st.slot i
  cases pk with
  | false =>
    have e1 : varS (get env i) = some d := e1
    cases e2 : get env i with
    | no => rw [e2] at e1; cases e1
    | own d' => rw [e2] at e1; cases e1
    | val d' =>
      rw [e2] at e1 sl
      cases e1
      obtain ⟨v, e3, r⟩ := sl
      exact ⟨v, e3, k v H F st.po.self (.inl r)⟩
  | true =>
    have e1 : varP (get env i) = some d := e1
    cases e2 : get env i with
    | no => rw [e2] at e1; cases e1
    | own d' =>
      rw [e2] at e1 sl
      cases e1
      obtain ⟨p, e3, f, h0, n, r⟩ := sl
      exact ⟨.ref p, e3, k _ H F st.po.self (.inr ⟨rfl, p, rfl, n, r⟩)⟩
    | val d' =>
      rw [e2] at e1 sl
      cases e1
      obtain ⟨v, e3, r⟩ := sl
      exact ⟨v, e3, k v H F st.po.self (.inl r)⟩
/-- one operand, then what is wanted of it -/
theorem one {ea : Env → List Int → Res D} {pa : Bool} {σ : L2.St} {H : Hp} {env : Env} {F : Hp} {dr : List Int} {f : D → List Int → Res D} {Q : VK} {R : VK} (st : StR (gd X ad) N.F0 N.H0 σ env F H dr)
    (h : ((ea env dr).bind f).post (fun d dr' => ∀ v H' F', Post (gd X ad) F H F' H' dr' → RepQ (gd X ad) pk F' H' d v → Q v H') (EX (gd X ad) N.W F H σ))
    (k : ∀ x dr1 v H1 F1, StR (gd X ad) N.F0 N.H0 σ env F1 H1 dr1 → Post (gd X ad) F H F1 H1 dr1 → RepQ (gd X ad) pa F1 H1 x v →
      (f x dr1).post (fun d dr' => ∀ v H' F', Post (gd X ad) F1 H1 F' H' dr' → RepQ (gd X ad) pk F' H' d v → Q v H') (EX (gd X ad) N.W F1 H1 σ) → R v H1) : tM (gd X ad) N pa ea σ H R := by
  refine ⟨env, F, dr, st, (post_bind h).imp (fun x dr1 h1 v H1 F1 a r1 => ?_) fun _ _ z => z⟩
  exact k x dr1 v H1 F1 (st.step a) a r1 (h1.imp (fun d dr' z v' H' F' b r' => z v' H' F' (a.trans b) r') fun e dr' z => EX.step a e dr' z)
theorem m_bin {op : BOp} {ea eb : Env → List Int → Res D} (ha : PE X l (tM (gd X ad) N true ea)) (hb : PE X r (tM (gd X ad) N true eb)) :
    PE X (.BinOp l (pyOp op) r pos) (tM (gd X ad) N pk (fun env dr => (ea env dr).bind fun x dr => (eb env dr).bind fun y dr => ofO (binD op x y) dr)) := PEw' (pe_op (op_bin (ad := ad) op) ha hb) fun σ H Q ⟨env, F, dr, st, k⟩ => by
  refine one st k fun x dr1 v H1 F1 st1 a r1 k1 => ?_
  refine one st1 k1 fun y dr2 w H2 F2 st2 b r2 k2 => ?_
  obtain ⟨d, e1, k3⟩ := post_ofO k2
  exact ⟨F2, x, y, d, st2.po.s, r1.step b, r2, e1, kont_of k3 st2.po.self⟩
theorem m_neg {ea : Env → List Int → Res D} (ha : PE X l (tM (gd X ad) N true ea)) : PE X (.UnaryOp .USub l pos) (tM (gd X ad) N pk (fun env dr => (ea env dr).bind fun x dr => ofO (match x with
    | .int i => some (.int (-i))
    | _ => none) dr)) := PEw' (pe_un un_neg ha) fun σ H Q ⟨env, F, dr, st, k⟩ => by
  refine one st k fun x dr1 v H1 F1 st1 a r1 k1 => ?_
  obtain ⟨d, e1, k3⟩ := post_ofO k1
  cases x <;> try (cases e1; done)
  cases e1
  cases rq_int r1
  exact ⟨_, rfl, k3 _ _ _ st1.po.self (.inl rfl)⟩
theorem m_cmp {op : COp} {ea eb : Env → List Int → Res D} (hu : X.A.units + 65 < cLine) (hm : behindInMarks (pyCm op) r = false) (ha : PE X l (tM (gd X ad) N true ea)) (hb : PE X r (tM (gd X ad) N true eb)) :
    PE X (.Compare l [pyCm op] [r] pos) (tM (gd X ad) N pk (fun env dr => (ea env dr).bind fun x dr => (eb env dr).bind fun y dr => ofO ((cmpD op x y).map .bl) dr)) := PEw' (pe_cmpR (op_cm (ad := ad) op hu) ha hb hm) fun σ H Q ⟨env, F, dr, st, k⟩ => by
  refine one st k fun x dr1 v H1 F1 st1 a r1 k1 => ?_
  refine one st1 k1 fun y dr2 w H2 F2 st2 b r2 k2 => ?_
  obtain ⟨d, e1, k3⟩ := post_ofO k2
  cases q : cmpD op x y with
  | none => rw [q] at e1; cases e1
  | some c =>
    rw [q] at e1
    cases e1
    exact ⟨F2, x, y, c, st2.po.s, r1.step b, r2, q, k3 _ _ _ st2.po.self (.inl rfl)⟩
/-- two operands, then a test's end -/
theorem oneT {ea : Env → List Int → Res D} {pa : Bool} {σ : L2.St} {H : Hp} {env : Env} {F : Hp} {dr : List Int} {f : D → List Int → Res Bool} {Q : Bool → Hp → Prop} {R : VK} (st : StR (gd X ad) N.F0 N.H0 σ env F H dr)
    (h : ((ea env dr).bind f).post (fun b dr' => ∀ H' F', Post (gd X ad) F H F' H' dr' → Q b H') (EX (gd X ad) N.W F H σ))
    (k : ∀ x dr1 v H1 F1, StR (gd X ad) N.F0 N.H0 σ env F1 H1 dr1 → Post (gd X ad) F H F1 H1 dr1 → RepQ (gd X ad) pa F1 H1 x v →
      (f x dr1).post (fun b dr' => ∀ H' F', Post (gd X ad) F1 H1 F' H' dr' → Q b H') (EX (gd X ad) N.W F1 H1 σ) → R v H1) : tM (gd X ad) N pa ea σ H R := by
  refine ⟨env, F, dr, st, (post_bind h).imp (fun x dr1 h1 v H1 F1 a r1 => ?_) fun _ _ z => z⟩
  exact k x dr1 v H1 F1 (st.step a) a r1 (h1.imp (fun d dr' z H' F' b => z H' F' (a.trans b)) fun e dr' z => EX.step a e dr' z)
theorem n_cmp {op : COp} {ea eb : Env → List Int → Res D} (hu : X.A.units + 65 < cLine) (hm : behindInMarks (pyCm op) r = false) (ha : PE X l (tM (gd X ad) N true ea)) (hb : PE X r (tM (gd X ad) N true eb)) :
    PT X (.Compare l [pyCm op] [r] pos) (tT (gd X ad) N (fun env dr => (ea env dr).bind fun x dr => (eb env dr).bind fun y dr => ofO (cmpD op x y) dr)) := PTw' (pt_cmpR (op_cm (ad := ad) op hu) ha hb hm) fun σ H Q ⟨env, F, dr, st, k⟩ => by
  refine oneT st k fun x dr1 v H1 F1 st1 a r1 k1 => ?_
  refine oneT st1 k1 fun y dr2 w H2 F2 st2 b r2 k2 => ?_
  obtain ⟨d, e1, k3⟩ := post_ofO k2
  exact ⟨F2, x, y, d, st2.po.s, r1.step b, r2, e1, d, rfl, k3 _ _ st2.po.self⟩
theorem isN_V {g : Gd} {F H : Hp} {d : D} {v : V} (h : RepQ g true F H d v) : decide (v = .non) = isNone d := by
  rcases h with h | ⟨_, p, rfl, _, h⟩
  · cases d with
    | non => rw [show v = .non from h]; rfl
    | bl _ => rw [show v = _ from h]; rfl
    | int _ => rw [show v = _ from h]; rfl
    | str _ => rw [show v = _ from h]; rfl
    | tup _ => obtain ⟨_, a, vs, rfl, _⟩ := h; rfl
    | lst _ => obtain ⟨_, a, vs, rfl, _⟩ := h; rfl
    | dicK _ _ => obtain ⟨_, _, _, a, vs, rfl, _⟩ := h; rfl
    | dicT _ _ => obtain ⟨_, _, _, a, vs, rfl, _⟩ := h; rfl
    | fn _ => obtain ⟨a, rfl, _⟩ := h; rfl
    | drw => obtain ⟨a, _, rfl⟩ := h; rfl
    | ilst _ => obtain ⟨_, a, rfl, _⟩ := h; rfl
  · cases d <;> first | exact h.elim | rfl
theorem m_isN {j : Nat} {p2 : Pos} {ea : Env → List Int → Res D} (ha : PE X l (tM (gd X ad) N true ea)) : PE X (.Compare l [.Is] [.Constant .none j p2] pos) (tM (gd X ad) N pk (fun env dr => (ea env dr).bind fun x dr => .ok (.bl (isNone x)) dr)) := PEw' (pe_cmp (pc_isN ha) rfl) fun σ H Q ⟨env, F, dr, st, k⟩ => by
  refine one st k fun x dr1 v H1 F1 st1 a r1 k1 => ?_
  rw [isN_V r1]
  exact k1 _ _ _ st1.po.self (.inl rfl)
theorem m_notN {j : Nat} {p2 : Pos} {ea : Env → List Int → Res D} (ha : PE X l (tM (gd X ad) N true ea)) : PE X (.Compare l [.IsNot] [.Constant .none j p2] pos) (tM (gd X ad) N pk (fun env dr => (ea env dr).bind fun x dr => .ok (.bl (!isNone x)) dr)) := PEw' (pe_cmp (pc_notN ha) rfl) fun σ H Q ⟨env, F, dr, st, k⟩ => by
  refine one st k fun x dr1 v H1 F1 st1 a r1 k1 => ?_
  rw [isN_V r1]
  exact k1 _ _ _ st1.po.self (.inl rfl)
theorem n_isN {j : Nat} {p2 : Pos} {ea : Env → List Int → Res D} (ha : PE X l (tM (gd X ad) N true ea)) : PT X (.Compare l [.Is] [.Constant .none j p2] pos) (tT (gd X ad) N (fun env dr => (ea env dr).bind fun x dr => .ok (isNone x) dr)) := PTw' (pt_cmp (pc_isN ha) rfl) fun σ H Q ⟨env, F, dr, st, k⟩ => by
  refine oneT st k fun x dr1 v H1 F1 st1 a r1 k1 => ?_
  rw [isN_V r1]
  exact ⟨_, rfl, k1 _ _ st1.po.self⟩
theorem n_notN {j : Nat} {p2 : Pos} {ea : Env → List Int → Res D} (ha : PE X l (tM (gd X ad) N true ea)) : PT X (.Compare l [.IsNot] [.Constant .none j p2] pos) (tT (gd X ad) N (fun env dr => (ea env dr).bind fun x dr => .ok (!isNone x) dr)) := PTw' (pt_cmp (pc_notN ha) rfl) fun σ H Q ⟨env, F, dr, st, k⟩ => by
  refine oneT st k fun x dr1 v H1 F1 st1 a r1 k1 => ?_
  rw [isN_V r1]
  exact ⟨_, rfl, k1 _ _ st1.po.self⟩
theorem m_not {ea : Env → List Int → Res D} (ha : PE X l (tM (gd X ad) N true ea)) : PE X (.UnaryOp .Not l pos) (tM (gd X ad) N pk (fun env dr => (ea env dr).bind fun x dr => ofO (match x with
    | .bl b => some (.bl (!b))
    | _ => none) dr)) := PEw' (pe_not ha) fun σ H Q ⟨env, F, dr, st, k⟩ => by
  refine one st k fun x dr1 v H1 F1 st1 a r1 k1 => ?_
  obtain ⟨d, e1, k3⟩ := post_ofO k1
  cases x <;> try (cases e1; done)
  cases e1
  cases rq_bl r1
  exact ⟨_, rfl, k3 _ _ _ st1.po.self (.inl rfl)⟩
/-- truth of a value -/
theorem tru_V {F H : Hp} {d : D} {v : V} {b : Bool} (h : RepQ (gd X ad) true F H d v) (s : Sub F H) (e : d.tru = some b) : TruV X.K v H b := by
  cases d with
  | non => cases e; cases rq_non h; rfl
  | bl c => cases e; cases rq_bl h; rfl
  | int i => cases e; cases rq_int h; rfl
  | str z =>
    obtain ⟨h1, rfl⟩ := grd_some e
    cases rq_str h
    refine ⟨szOk_le h1, ?_⟩
    cases q : z.length with
    | zero => rfl
    | succ n =>
      symm
      exact bne_iff_ne.mpr (by omega)
  | tup ds =>
    cases e
    obtain ⟨p, vs, rfl, h1, t, _⟩ := rq_tup h s
    refine .inr (.inl ⟨vs, .of h1, ?_⟩)
    have := t.len
    cases vs <;> cases ds <;> first | rfl | (simp at this)
  | lst ds =>
    cases e
    obtain ⟨p, vs, rfl, h1, t, _⟩ := rq_lst h s
    refine .inl ⟨vs, .of h1, ?_⟩
    have := t.len
    cases vs <;> cases ds <;> first | rfl | (simp at this)
  | _ => cases e
/-- a test by a value's truth -/
theorem n_tru {ea : Env → List Int → Res D} {pa : Bool} (ha : PE X e (tM (gd X ad) N true ea)) (he : ∀ whole, isTrue e X.env whole = (do let v ← whole; standAt e.pos; holding [v] (truthy v))) :
    PT X e (tT (gd X ad) N (fun env dr => (ea env dr).bind fun x dr => ofO x.tru dr)) := PTw' (pt_truth ha he) fun σ H Q ⟨env, F, dr, st, k⟩ => by
  refine oneT st k fun x dr1 v H1 F1 st1 a r1 k1 => ?_
  obtain ⟨d, e1, k3⟩ := post_ofO k1
  exact ⟨d, tru_V r1 st1.po.s e1, k3 _ _ st1.po.self⟩
theorem n_not {ea : Env → List Int → Res Bool} (ha : PT X l (tT (gd X ad) N ea)) : PT X (.UnaryOp .Not l pos) (tT (gd X ad) N (fun env dr => (ea env dr).bind fun b dr => .ok (!b) dr)) := PTw' (pt_not ha) fun σ H Q ⟨env, F, dr, st, k⟩ =>
  ⟨env, F, dr, st, (post_bind k).imp (fun _ _ z => z) fun _ _ z => z⟩
theorem n_and1 {ea : Env → List Int → Res Bool} (ha : PT X l (tT (gd X ad) N ea)) : PW X (.BoolOp .And [l] pos) (tT (gd X ad) N ea) := pw_and1 ha
theorem n_or1 {ea : Env → List Int → Res Bool} (ha : PT X l (tT (gd X ad) N ea)) : PW X (.BoolOp .Or [l] pos) (tT (gd X ad) N ea) := pw_or1 ha
theorem n_and {es : List Expr} {ea eb : Env → List Int → Res Bool} (ha : PT X l (tT (gd X ad) N ea)) (hb : PW X (.BoolOp .And (r :: es) pos) (tT (gd X ad) N eb)) :
    PW X (.BoolOp .And (l :: r :: es) pos) (tT (gd X ad) N (fun env dr => (ea env dr).bind fun b dr => match b with
    | true => eb env dr
    | false => .ok false dr)) := PWw' (pw_and ha hb) fun σ H Q ⟨env, F, dr, st, k⟩ => by
  refine ⟨env, F, dr, st, (post_bind k).imp (fun b dr1 h1 H1 F1 a => ?_) fun _ _ z => z⟩
  cases b with
  | true =>
    rw [if_pos rfl]
    exact ⟨env, F1, dr1, st.step a, h1.imp (fun d dr' z H' F' b => z H' F' (a.trans b)) fun e dr' z => EX.step a e dr' z⟩
  | false =>
    rw [if_neg Bool.false_ne_true]
    exact h1 H1 F1 a
theorem n_or {es : List Expr} {ea eb : Env → List Int → Res Bool} (ha : PT X l (tT (gd X ad) N ea)) (hb : PW X (.BoolOp .Or (r :: es) pos) (tT (gd X ad) N eb)) :
    PW X (.BoolOp .Or (l :: r :: es) pos) (tT (gd X ad) N (fun env dr => (ea env dr).bind fun b dr => match b with
    | true => .ok true dr
    | false => eb env dr)) := PWw' (pw_or ha hb) fun σ H Q ⟨env, F, dr, st, k⟩ => by
  refine ⟨env, F, dr, st, (post_bind k).imp (fun b dr1 h1 H1 F1 a => ?_) fun _ _ z => z⟩
  cases b with
  | true =>
    rw [if_pos rfl]
    exact h1 H1 F1 a
  | false =>
    rw [if_neg Bool.false_ne_true]
    exact ⟨env, F1, dr1, st.step a, h1.imp (fun d dr' z H' F' b => z H' F' (a.trans b)) fun e dr' z => EX.step a e dr' z⟩
theorem m_and {es : List Expr} {ea eb : Env → List Int → Res D} (ha : PE X l (tM (gd X ad) N true ea)) (hb : PE X (.BoolOp .And (r :: es) pos) (tM (gd X ad) N pk eb)) :
    PE X (.BoolOp .And (l :: r :: es) pos) (tM (gd X ad) N pk (fun env dr => (ea env dr).bind fun x dr => match x with
    | .bl true => eb env dr
    | .bl false => .ok (.bl false) dr
    | _ => .bad)) := PEw' (pe_and ha hb) fun σ H Q ⟨env, F, dr, st, k⟩ => by
  refine one st k fun x dr1 v H1 F1 st1 a r1 k1 => ?_
  cases x <;> try (exact (False.elim k1); done)
  rename_i b
  cases rq_bl r1
  refine ⟨b, rfl, ?_⟩
  cases b with
  | true =>
    rw [if_pos rfl]
    exact ⟨env, F1, dr1, st1, k1⟩
  | false =>
    rw [if_neg Bool.false_ne_true]
    exact k1 _ _ _ st1.po.self (.inl rfl)
theorem m_or {es : List Expr} {ea eb : Env → List Int → Res D} (ha : PE X l (tM (gd X ad) N true ea)) (hb : PE X (.BoolOp .Or (r :: es) pos) (tM (gd X ad) N pk eb)) :
    PE X (.BoolOp .Or (l :: r :: es) pos) (tM (gd X ad) N pk (fun env dr => (ea env dr).bind fun x dr => match x with
    | .bl true => .ok (.bl true) dr
    | .bl false => eb env dr
    | _ => .bad)) := PEw' (pe_or ha hb) fun σ H Q ⟨env, F, dr, st, k⟩ => by
  refine one st k fun x dr1 v H1 F1 st1 a r1 k1 => ?_
  cases x <;> try (exact (False.elim k1); done)
  rename_i b
  cases rq_bl r1
  refine ⟨b, rfl, ?_⟩
  cases b with
  | true =>
    rw [if_pos rfl]
    exact k1 _ _ _ st1.po.self (.inl rfl)
  | false =>
    rw [if_neg Bool.false_ne_true]
    exact ⟨env, F1, dr1, st1, k1⟩
/-- strict is more -/
theorem m_up {ea : Env → List Int → Res D} (ha : PE X l (tM (gd X ad) N false ea)) : PE X l (tM (gd X ad) N pk ea) := PEw' ha fun σ H Q ⟨env, F, dr, st, k⟩ =>
  ⟨env, F, dr, st, k.imp (fun d dr' z v H' F' b r => z v H' F' b (.inl r.rep)) fun _ _ z => z⟩
theorem m_ife {c : Expr} {et : Env → List Int → Res Bool} {ea eb : Env → List Int → Res D} (hc : PT X c (tT (gd X ad) N et)) (ha : PE X l (tM (gd X ad) N pk ea)) (hb : PE X r (tM (gd X ad) N pk eb)) :
    PE X (.IfExp c l r pos) (tM (gd X ad) N pk (fun env dr => (et env dr).bind fun t dr => match t with
    | true => ea env dr
    | false => eb env dr)) := PEw' (pe_ifExp hc ha hb) fun σ H Q ⟨env, F, dr, st, k⟩ => by
  refine ⟨env, F, dr, st, (post_bind k).imp (fun b dr1 h1 H1 F1 a => ?_) fun _ _ z => z⟩
  cases b with
  | true =>
    rw [if_pos rfl]
    exact ⟨env, F1, dr1, st.step a, h1.imp (fun d dr' z v H' F' b => z v H' F' (a.trans b)) fun e dr' z => EX.step a e dr' z⟩
  | false =>
    rw [if_neg Bool.false_ne_true]
    exact ⟨env, F1, dr1, st.step a, h1.imp (fun d dr' z v H' F' b => z v H' F' (a.trans b)) fun e dr' z => EX.step a e dr' z⟩
/-! rows of expressions -/
theorem a_nil : PA X [] (tA (gd X ad) N (fun _ dr => .ok [] dr)) := PAw' pa_nil fun σ H Q ⟨env, F, dr, st, k⟩ => k [] H F st.po.self rfl
theorem ap_nil : PA X [] (tAp (gd X ad) N (fun _ dr => .ok [] dr)) := PAw' pa_nil fun σ H Q ⟨env, F, dr, st, k⟩ => k [] H F st.po.self rfl
theorem a_cons {es : List Expr} {ea : Env → List Int → Res D} {el : Env → List Int → Res (List D)} (ha : PE X l (tM (gd X ad) N false ea)) (hl : PA X es (tA (gd X ad) N el)) (hs : starEach (l :: es) X.env = (false, eval l X.env) :: starEach es X.env) :
    PA X (l :: es) (tA (gd X ad) N (fun env dr => (ea env dr).bind fun d dr => (el env dr).bind fun ds dr => .ok (d :: ds) dr)) := PAw' (pa_cons ha hl hs) fun σ H Q ⟨env, F, dr, st, k⟩ => by
  refine ⟨env, F, dr, st, (post_bind k).imp (fun d dr1 h1 v H1 F1 a r1 => ?_) fun _ _ z => z⟩
  refine ⟨env, F1, dr1, st.step a, (post_bind h1).imp (fun ds dr2 h2 vs H2 F2 b r2 => ?_) fun e dr' z => EX.step a e dr' z⟩
  exact h2 _ H2 F2 (a.trans b) (Reps.cons (Rep.mono b.f _ _ r1.rep) r2)
theorem ap_cons {es : List Expr} {ea : Env → List Int → Res D} {el : Env → List Int → Res (List D)} (ha : PE X l (tM (gd X ad) N true ea)) (hl : PA X es (tAp (gd X ad) N el)) (hs : starEach (l :: es) X.env = (false, eval l X.env) :: starEach es X.env) :
    PA X (l :: es) (tAp (gd X ad) N (fun env dr => (ea env dr).bind fun d dr => (el env dr).bind fun ds dr => .ok (d :: ds) dr)) := PAw' (pa_cons ha hl hs) fun σ H Q ⟨env, F, dr, st, k⟩ => by
  refine ⟨env, F, dr, st, (post_bind k).imp (fun d dr1 h1 v H1 F1 a r1 => ?_) fun _ _ z => z⟩
  refine ⟨env, F1, dr1, st.step a, (post_bind h1).imp (fun ds dr2 h2 vs H2 F2 b r2 => ?_) fun e dr' z => EX.step a e dr' z⟩
  exact h2 _ H2 F2 (a.trans b) ⟨v, vs, rfl, r1.step b, r2⟩
/-- a row's end: a new tuple, a new list -/
theorem m_tup {es : List Expr} {k : Nat} {el : Env → List Int → Res (List D)} (hl : PA X es (tA (gd X ad) N el)) : PE X (.Tuple es k pos) (tM (gd X ad) N pk (fun env dr => (el env dr).bind fun ds dr => ofO (grd (szOk ds.length) (.tup ds)) dr)) := PEw' (pe_tup hl) fun σ H Q ⟨env, F, dr, st, k⟩ => by
  refine ⟨env, F, dr, st, (post_bind k).imp (fun ds dr1 h1 vs H1 F1 a r1 => ?_) fun _ _ z => z⟩
  obtain ⟨d, e1, k3⟩ := post_ofO h1
  obtain ⟨h2, rfl⟩ := grd_some e1
  have h3 := szOk_le h2
  exact ⟨by rw [r1.len]; exact h3, fun p hp => k3 _ _ _ (a.alloc hp) (.inl (rep_tup (a.s.free hp) r1 h3))⟩
theorem m_lst {es : List Expr} {el : Env → List Int → Res (List D)} (hl : PA X es (tA (gd X ad) N el)) : PE X (.List es pos) (tMF (gd X ad) N (fun env dr => (el env dr).bind fun ds dr => ofO (grd (szOk ds.length) (.lst ds)) dr)) := PEw' (pe_lst hl) fun σ H Q ⟨env, F, dr, st, k⟩ => by
  refine ⟨env, F, dr, st, (post_bind k).imp (fun ds dr1 h1 vs H1 F1 a r1 => ?_) fun _ _ z => z⟩
  obtain ⟨d, e1, k3⟩ := post_ofO h1
  obtain ⟨h2, rfl⟩ := grd_some e1
  have h3 := szOk_le h2
  refine ⟨by rw [r1.len]; exact h3, fun p hp => k3 _ _ _ (a.allocH hp) ?_ (a.s.free hp) (own_lst r1 h3)⟩
  cases q : H p with
  | none => rfl
  | some o =>
    rw [a.old p o q (a.pne hp)] at hp
    cases hp
theorem m_dicE (t : Bool) : PE X (.Dict [] [] pos) (tMF (gd X ad) N (fun _ dr => .ok (if t then .dicT [] [] else .dicK [] []) dr)) := by
  cases t with
  | true => exact PEw' pe_dnewT fun σ H Q ⟨env, F, dr, st, k⟩ p hp => k p _ F (st.po.self.allocH hp) hp (st.po.s.free hp) ⟨.nil, Nat.zero_le _, rfl, [], upd_same, rfl⟩
  | false => exact PEw' pe_dnewK fun σ H Q ⟨env, F, dr, st, k⟩ p hp => k p _ F (st.po.self.allocH hp) hp (st.po.s.free hp) ⟨.nil, Nat.zero_le _, rfl, [], upd_same, rfl⟩
end
end Cr
/-! Calls, places, slices, walks, comprehensions. -/
namespace Cr
open PySem PySem.Spec PyProof.Rows L2

section
variable {X : Cx} {ad : Option Addr} {N : En} {pk : Bool} {pos : Pos} {e l r : Expr}
theorem chain_marks {o1 o2 : CmpOp} {c3 : Expr} (hm : behindInMarks o2 c3 = false) : lastMarks [o1, o2] [r, c3] = false := hm
theorem m_chain {o1 o2 : COp} {c3 : Expr} {ea eb ec : Env → List Int → Res D} (hu : X.A.units + 65 < cLine) (hm : behindInMarks (pyCm o2) c3 = false) (ha : PE X l (tM (gd X ad) N true ea)) (hb : PE X r (tM (gd X ad) N true eb)) (hc : PE X c3 (tM (gd X ad) N true ec)) :
    PE X (.Compare l [pyCm o1, pyCm o2] [r, c3] pos) (tM (gd X ad) N pk (fun env dr => (ea env dr).bind fun x dr => (eb env dr).bind fun y dr => (ofO (cmpD o1 x y) dr).bind fun k dr =>
    match k with
    | true => (ec env dr).bind fun z dr => ofO ((cmpD o2 y z).map .bl) dr
    | false => .ok (.bl false) dr)) := PEw' (pe_chain (op_cm (ad := ad) o1 hu) (op_cm (ad := ad) o2 hu) ha hb hc (chain_marks hm)) fun σ H Q ⟨env, F, dr, st, k⟩ => by
  refine one st k fun x dr1 v H1 F1 st1 a r1 k1 => ?_
  refine one st1 k1 fun y dr2 w H2 F2 st2 b r2 k2 => ?_
  obtain ⟨c, e1, k3⟩ := post_ofO (post_bind k2)
  refine ⟨F2, x, y, c, st2.po.s, r1.step b, r2, e1, c, rfl, ?_⟩
  cases c with
  | true =>
    rw [if_pos rfl]
    refine one st2 k3 fun z dr3 u H3 F3 st3 b3 r3 k4 => ?_
    obtain ⟨d, e2, k5⟩ := post_ofO k4
    cases q : cmpD o2 y z with
    | none => rw [q] at e2; cases e2
    | some c2 =>
      rw [q] at e2
      cases e2
      exact ⟨F3, y, z, c2, st3.po.s, r2.step b3, r3, q, k5 _ _ _ st3.po.self (.inl rfl)⟩
  | false =>
    rw [if_neg Bool.false_ne_true]
    exact k3 _ _ _ st2.po.self (.inl rfl)
theorem n_chain {o1 o2 : COp} {c3 : Expr} {ea eb ec : Env → List Int → Res D} (hu : X.A.units + 65 < cLine) (hm : behindInMarks (pyCm o2) c3 = false) (ha : PE X l (tM (gd X ad) N true ea)) (hb : PE X r (tM (gd X ad) N true eb)) (hc : PE X c3 (tM (gd X ad) N true ec)) :
    PT X (.Compare l [pyCm o1, pyCm o2] [r, c3] pos) (tT (gd X ad) N (fun env dr => (ea env dr).bind fun x dr => (eb env dr).bind fun y dr => (ofO (cmpD o1 x y) dr).bind fun k dr =>
    match k with
    | true => (ec env dr).bind fun z dr => ofO (cmpD o2 y z) dr
    | false => .ok false dr)) := PTw' (pt_chain (op_cm (ad := ad) o1 hu) (op_cm (ad := ad) o2 hu) ha hb hc (chain_marks hm)) fun σ H Q ⟨env, F, dr, st, k⟩ => by
  refine oneT st k fun x dr1 v H1 F1 st1 a r1 k1 => ?_
  refine oneT st1 k1 fun y dr2 w H2 F2 st2 b r2 k2 => ?_
  obtain ⟨c, e1, k3⟩ := post_ofO (post_bind k2)
  refine ⟨F2, x, y, c, st2.po.s, r1.step b, r2, e1, c, rfl, ?_⟩
  cases c with
  | true =>
    rw [if_pos rfl]
    refine oneT st2 k3 fun z dr3 u H3 F3 st3 b3 r3 k4 => ?_
    obtain ⟨c2, e2, k5⟩ := post_ofO k4
    exact ⟨F3, y, z, c2, st3.po.s, r2.step b3, r3, e2, c2, rfl, k5 _ _ st3.po.self⟩
  | false =>
    rw [if_neg Bool.false_ne_true]
    exact ⟨false, rfl, k3 _ _ st2.po.self⟩

/-! ### calls -/
/-- what a def that keeps to the trees promises -/
def spD (K : PySem.W.Frag) (mg : Str → Option Value) (n : Nat) (fn : List D → List Int → Res D) : Sp := fun vs H Q E => vs.length = n ∧ ∃ (ad : Option Addr) (F : Hp) (ds : List D) (dr : List Int), Sub F H ∧ (∀ a, ad = some a → F a = none) ∧ (∀ a, ad = some a → H a = some (.lst (dr.reverse.map V.int))) ∧ Reps ⟨K, mg, ad⟩ F ds vs ∧
  (fn ds dr).post (fun d dr' => ∀ v H' F', Post ⟨K, mg, ad⟩ F H F' H' dr' → Rep ⟨K, mg, ad⟩ F' d v → Q v H') (fun e dr' => ∀ cls dd H' F', Post ⟨K, mg, ad⟩ F H F' H' dr' → ExR ⟨K, mg, ad⟩ F' H' e cls dd → E cls dd H')
/-- a def by its name, and what it promises -/
structure FnG (X : Cx) (k : Nat) (x : Str) (n : Nat) (fn : List D → List Int → Res D) : Prop where
  ex : ∃ f fd ps, X.mg x = some (.ref f) ∧ PySem.W.keepIn X.K (.ref f) = true ∧ Binds X.K fd ps [] ∧ FnOk X.prog X.w X.K X.mg X.base (L2N.CX X.prog X.w) k f fd ps (spD X.K X.mg n fn)
theorem tA_one {el : Env → List Int → Res (List D)} {σ : L2.St} {H : Hp} {env : Env} {F : Hp} {dr : List Int} {f : List D → List Int → Res D} {Q : VK} {R : List V → Hp → Prop} (st : StR (gd X ad) N.F0 N.H0 σ env F H dr)
    (h : ((el env dr).bind f).post (fun d dr' => ∀ v H' F', Post (gd X ad) F H F' H' dr' → RepQ (gd X ad) pk F' H' d v → Q v H') (EX (gd X ad) N.W F H σ))
    (k : ∀ ds dr1 vs H1 F1, StR (gd X ad) N.F0 N.H0 σ env F1 H1 dr1 → Post (gd X ad) F H F1 H1 dr1 → Reps (gd X ad) F1 ds vs →
      (f ds dr1).post (fun d dr' => ∀ v H' F', Post (gd X ad) F1 H1 F' H' dr' → RepQ (gd X ad) pk F' H' d v → Q v H') (EX (gd X ad) N.W F1 H1 σ) → R vs H1) : tA (gd X ad) N el σ H R := by
  refine ⟨env, F, dr, st, (post_bind h).imp (fun x dr1 h1 v H1 F1 a r1 => ?_) fun _ _ z => z⟩
  exact k x dr1 v H1 F1 (st.step a) a r1 (h1.imp (fun d dr' z v' H' F' b r' => z v' H' F' (a.trans b) r') fun e dr' z => EX.step a e dr' z)
theorem tAp_one {el : Env → List Int → Res (List D)} {σ : L2.St} {H : Hp} {env : Env} {F : Hp} {dr : List Int} {f : List D → List Int → Res D} {Q : VK} {R : List V → Hp → Prop} (st : StR (gd X ad) N.F0 N.H0 σ env F H dr)
    (h : ((el env dr).bind f).post (fun d dr' => ∀ v H' F', Post (gd X ad) F H F' H' dr' → RepQ (gd X ad) pk F' H' d v → Q v H') (EX (gd X ad) N.W F H σ))
    (k : ∀ ds dr1 vs H1 F1, StR (gd X ad) N.F0 N.H0 σ env F1 H1 dr1 → Post (gd X ad) F H F1 H1 dr1 → RepsQ (gd X ad) F1 H1 ds vs →
      (f ds dr1).post (fun d dr' => ∀ v H' F', Post (gd X ad) F1 H1 F' H' dr' → RepQ (gd X ad) pk F' H' d v → Q v H') (EX (gd X ad) N.W F1 H1 σ) → R vs H1) : tAp (gd X ad) N el σ H R := by
  refine ⟨env, F, dr, st, (post_bind h).imp (fun x dr1 h1 v H1 F1 a r1 => ?_) fun _ _ z => z⟩
  exact k x dr1 v H1 F1 (st.step a) a r1 (h1.imp (fun d dr' z v' H' F' b r' => z v' H' F' (a.trans b) r') fun e dr' z => EX.step a e dr' z)
theorem call_run {k n : Nat} {fn : List D → List Int → Res D} {f : Addr} {fd : FuncData} {ps : List Str} {ds : List D} {vs : List V} {F H : Hp} {dr : List Int} {σ : L2.St} {Q : VK} (st : Post (gd X ad) F H F H dr) (hn : vs.length = n) (r : Reps (gd X ad) F ds vs)
    (h : (fn ds dr).post (fun d dr' => ∀ v H' F', Post (gd X ad) F H F' H' dr' → RepQ (gd X ad) pk F' H' d v → Q v H') (EX (gd X ad) N.W F H σ)) : spD X.K X.mg n fn vs H Q (WE N.W σ) :=
  ⟨hn, ad, F, ds, dr, st.s, st.fd, st.dr, r, h.imp (fun d dr' z v H' F' a r' => z v H' F' a (.inl r')) fun e dr' z => z⟩
theorem m_call {x : Str} {p : Pos} {es : List Expr} {k n : Nat} {fn : List D → List Int → Res D} {el : Env → List Int → Res (List D)} (G : FnG X k x n fn) (hr : Room k X.A) (hg : Gl X x) (hdb : (x == ("__debug__" : Str)) = false) (tk : ∀ σ, PassesAt (L2N.CX X.prog X.w) X σ (WE N.W σ))
    (ha : PA X (l :: es) (tA (gd X ad) N el)) (hn : (l :: es).length = n) (hl : ∀ env dr ds dr', el env dr = .ok ds dr' → ds.length = n) (he : starEach (l :: es) X.env = (false, eval l X.env) :: starEach es X.env) (hpl : (backTo pos (starEach es X.env)).any (·.1) = false) :
    PE X (.Call (.Name x p) (l :: es) [] pos) (tM (gd X ad) N pk (fun env dr => (el env dr).bind fun ds dr => fn ds dr)) := by
  obtain ⟨f, fd, ps, hm, hk, hb, F⟩ := G.ex
  refine PEw' (pe_callS (E := WE N.W) F hr hg hm hk hb tk ha hdb he hpl) fun σ H Q ⟨env, F, dr, st, k⟩ => ?_
  refine ⟨env, F, dr, st, ?_⟩
  have k' := post_bind k
  cases q : el env dr with
  | bad => rw [q] at k'; exact k'
  | exc e dr1 => rw [q] at k'; exact k'
  | ok ds dr1 =>
    rw [q] at k'
    show ∀ vs H' F', _ → _ → _
    intro vs H1 F1 a r1
    have h1 : (fn ds dr1).post _ _ := k'
    exact call_run (N := N) (pk := pk) (k := 0) (f := f) (fd := fd) (ps := ps) (st.step a).po.self (by rw [r1.len]; exact hl _ _ _ _ q) r1 (h1.imp (fun d dr' z v' H' F' b r' => z v' H' F' (a.trans b) r') fun e dr' z => EX.step a e dr' z)
/-- a built-in by its name -/
theorem m_blt {f : BI} {p : Pos} {es : List Expr} {el : Env → List Int → Res (List D)} (hc : X.calm = true) (hg : Gl X (biNm f)) (hm : X.mg (biNm f) = none) (ha : PA X (l :: es) (tAp (gd X ad) N el))
    (he : starEach (l :: es) X.env = (false, eval l X.env) :: starEach es X.env) (hpl : (backTo pos (starEach es X.env)).any (·.1) = false) :
    PE X (.Call (.Name (biNm f) p) (l :: es) [] pos) (tM (gd X ad) N pk (fun env dr => (el env dr).bind fun ds dr => ofO (bltD f ds) dr)) := by
  have main : ∀ σ H Q, tM (gd X ad) N pk (fun env dr => (el env dr).bind fun ds dr => ofO (bltD f ds) dr) σ H Q → tCB (rBlt (gd X ad) f) (tAp (gd X ad) N el) σ H Q := fun σ H Q ⟨env, F, dr, st, k⟩ => by
    refine tAp_one st k fun ds dr1 vs H1 F1 st1 a r1 k1 => ?_
    obtain ⟨d, e1, k3⟩ := post_ofO k1
    exact ⟨F1, ds, d, st1.po.s, r1, e1, kont_of k3 st1.po.self⟩
  have hn : biNm f ≠ "__name__" := by cases f <;> decide +kernel
  have hd : (biNm f == ("__debug__" : Str)) = false := by cases f <;> decide +kernel
  have hb := biV_ok f
  have hcall := call_blt (ad := ad) hc f
  cases f with
  | len => exact PEw' (pe_callB hcall hg hm hb ha hn hd he hpl) main
  | abs => exact PEw' (pe_callB hcall hg hm hb ha hn hd he hpl) main
  | max => exact PEw' (pe_callB hcall hg hm hb ha hn hd he hpl) main
  | min => exact PEw' (pe_callB hcall hg hm hb ha hn hd he hpl) main
  | sum => exact PEw' (pe_callB hcall hg hm hb ha hn hd he hpl) main
  | all => exact PEw' (pe_callB hcall hg hm hb ha hn hd he hpl) main
  | any => exact PEw' (pe_callB hcall hg hm hb ha hn hd he hpl) main
  | sorted => exact PEw' (pe_callB hcall hg hm hb ha hn hd he hpl) main
  | int => exact PEw' (pe_callTy hcall hg hm hb ha hn hd he hpl) main
  | list => exact PEw' (pe_callTy hcall hg hm hb ha hn hd he hpl) main
  | tuple => exact PEw' (pe_callTy hcall hg hm hb ha hn hd he hpl) main
  | str => exact PEw' (pe_callTy hcall hg hm hb ha hn hd he hpl) main
  | reversed => exact PEw' (pe_callTy hcall hg hm hb ha hn hd he hpl) main
  | set => exact PEw' (pe_callTy hcall hg hm hb ha hn hd he hpl) main
  | dict => exact PEw' (pe_callTy hcall hg hm hb ha hn hd he hpl) main
  | bool => exact PEw' (pe_callTy hcall hg hm hb ha hn hd he hpl) main
theorem ty_boot (t : Ty) : bootBuiltins (tyNm t) = some (.type (tyNm t)) := by cases t <;> decide +kernel
theorem m_isi {t : Ty} {p p2 : Pos} {ea : Env → List Int → Res D} (hg : Gl X "isinstance") (hm : X.mg "isinstance" = none) (hg2 : Gl X (tyNm t)) (hm2 : X.mg (tyNm t) = none) (ha : PE X l (tM (gd X ad) N true ea))
    (he : starEach [l, .Name (tyNm t) p2] X.env = (false, eval l X.env) :: starEach [.Name (tyNm t) p2] X.env) :
    PE X (.Call (.Name "isinstance" p) [l, .Name (tyNm t) p2] [] pos) (tM (gd X ad) N pk (fun env dr => (ea env dr).bind fun x dr => ofO ((isiD t x).map .bl) dr)) := by
  have hb : PE X (.Name (tyNm t) p2) (tC (.ty (tyNm t))) := pe_bltn hg2 hm2 (ty_boot t) rfl (by cases t <;> decide +kernel) (by cases t <;> decide +kernel)
  refine PEw' (pe_callB (call_isi' (ad := ad) t) hg hm (by decide +kernel) (pa_cons ha (pa_cons hb pa_nil rfl) he) (by decide +kernel) (by decide +kernel) he rfl) fun σ H Q ⟨env, F, dr, st, k⟩ => ?_
  refine one st k fun x dr1 v H1 F1 st1 a r1 k1 => ?_
  obtain ⟨d, e1, k3⟩ := post_ofO k1
  cases q : isiD t x with
  | none => rw [q] at e1; cases e1
  | some c =>
    rw [q] at e1
    cases e1
    exact ⟨F1, x, v, c, st1.po.s, rfl, r1, q, k3 _ _ _ st1.po.self (.inl rfl)⟩
theorem m_ix {ea eb : Env → List Int → Res D} (hu : X.A.units + 1 < cLine) (ha : PE X l (tM (gd X ad) N true ea)) (hb : PE X r (tM (gd X ad) N true eb)) (hs : PlainIx r) :
    PE X (.Subscript l r pos) (tM (gd X ad) N pk (fun env dr => (ea env dr).bind fun x dr => (eb env dr).bind fun y dr => ofO (ixD x y) dr)) := PEw' (pe_ix (ix_any (ad := ad) hu) ha hb hs) fun σ H Q ⟨env, F, dr, st, k⟩ => by
  refine one st k fun x dr1 v H1 F1 st1 a r1 k1 => ?_
  refine one st1 k1 fun y dr2 w H2 F2 st2 b r2 k2 => ?_
  obtain ⟨d, e1, k3⟩ := post_ofO k2
  exact ⟨F2, x, y, d, st2.po.s, r1.step b, r2, e1, fun v' r' => k3 _ _ _ st2.po.self (.inl r')⟩
theorem o_none : PO X none (tO (gd X ad) N (fun _ dr => .ok none dr)) := POw' po_none fun σ H Q ⟨env, F, dr, st, k⟩ => k H F st.po.self
theorem o_some {ea : Env → List Int → Res D} (ha : PE X l (tM (gd X ad) N true ea)) : PO X (some l) (tO (gd X ad) N (fun env dr => (ea env dr).bind fun d dr => ofO (match d with
    | .int i => some (some i)
    | _ => none) dr)) := POw' (po_some ha) fun σ H Q ⟨env, F, dr, st, k⟩ => by
  refine ⟨env, F, dr, st, (post_bind k).imp (fun x dr1 h1 v H1 F1 a r1 => ?_) fun _ _ z => z⟩
  obtain ⟨o, e1, k3⟩ := post_ofO h1
  cases x <;> try (cases e1; done)
  cases e1
  cases rq_int r1
  exact ⟨_, rfl, k3 H1 F1 a⟩
theorem m_sl {lo hi : Option Expr} {p2 : Pos} {ea : Env → List Int → Res D} {el eh : Env → List Int → Res (Option Int)} (ha : PE X l (tM (gd X ad) N true ea)) (hl : PO X lo (tO (gd X ad) N el)) (hh : PO X hi (tO (gd X ad) N eh)) :
    PE X (.Subscript l (.Slice lo hi none p2) pos) (tM (gd X ad) N pk (fun env dr => (ea env dr).bind fun x dr => (el env dr).bind fun lo dr => (eh env dr).bind fun hi dr => ofO (slD x lo hi) dr)) := PEw' (pe_slice (sl_any (ad := ad)) ha hl hh) fun σ H Q ⟨env, F, dr, st, k⟩ => by
  refine one st k fun x dr1 v H1 F1 st1 a r1 k1 => ?_
  refine ⟨env, F1, dr1, st1, (post_bind k1).imp (fun lo dr2 h2 H2 F2 b => ?_) fun _ _ z => z⟩
  refine ⟨env, F2, dr2, st1.step b, (post_bind h2).imp (fun hi dr3 h3 H3 F3 c => ?_) fun e dr' z => EX.step b e dr' z⟩
  obtain ⟨d, e1, k3⟩ := post_ofO h3
  exact ⟨F3, x, d, c.s, (r1.step b).step c, e1, kont_of k3 (b.trans c)⟩
def miTy : MI → String
  | .join => "str" | .get => "dict" | .index => "list" | .count => "list" | .startswith => "str" | .endswith => "str" | .split => "str"
theorem tyV_str {F H : Hp} {d : D} {v : V} (h : RepQ (gd X ad) true F H d v) (e : ∃ z, d = .str z) : tyV X.K "str" v H := by
  obtain ⟨z, rfl⟩ := e
  cases rq_str h
  rfl
theorem tyV_dict {F H : Hp} {d : D} {v : V} (h : RepQ (gd X ad) true F H d v) (s : Sub F H) (e : (∃ ks ds, d = .dicK ks ds) ∨ ∃ ks ds, d = .dicT ks ds) : tyV X.K "dict" v H := by
  rcases e with ⟨ks, ds, rfl⟩ | ⟨ks, ds, rfl⟩
  · obtain ⟨p, vs, rfl, h1, _⟩ := rq_dicK h s
    exact .inr (.inr (.inl ⟨rfl, .inl ⟨_, h1⟩⟩))
  · obtain ⟨p, vs, rfl, h1, _⟩ := rq_dicT h s
    exact .inr (.inr (.inl ⟨rfl, .inr ⟨_, h1⟩⟩))
theorem rcv_eq {m : MI} {x y : D} (h : rcv m x = some y) : y = x := by
  cases m <;> cases x <;> cases h <;> rfl
theorem rcv_ty {m : MI} {x y : D} {F H : Hp} {v : V} (h : rcv m x = some y) (r : RepQ (gd X ad) true F H x v) (s : Sub F H) : tyV X.K (miTy m) v H := by
  cases m <;> cases x <;> (try (cases h; done))
  · exact tyV_str r ⟨_, rfl⟩
  · exact tyV_dict r s (.inl ⟨_, _, rfl⟩)
  · exact tyV_dict r s (.inr ⟨_, _, rfl⟩)
def miOk : MI → Bool
  | .join => true
  | .get => true
  | _ => false
theorem m_meth {m : MI} {es : List Expr} {apos : Pos} {ea : Env → List Int → Res D} {el : Env → List Int → Res (List D)} (hk : miOk m = true) (hu : X.A.units + 1 < cLine)
    (ha : PE X l (tM (gd X ad) N true ea)) (hl : PA X (r :: es) (tA (gd X ad) N el)) (hbase : attributeBase l (miNm m) X.env (eval l X.env) = eval l X.env)
    (hfew : ((backTo pos (starEach (r :: es) X.env)).all (fun x => !x.1) && (backToKw pos (keywordEach [] X.env)).all (fun x => x.1.isSome) && decide ((r :: es).length + ([] : List Keyword).length + (if ([] : List Keyword).isEmpty then 0 else 1) < 30)) = true)
    (hline : (apos.endLine == pos.line) = true) (hs : starEach (r :: es) X.env = (false, eval r X.env) :: starEach es X.env) (hplain : (backTo pos (starEach es X.env)).any (·.1) = false) :
    PE X (.Call (.Attribute l (miNm m) apos) (r :: es) [] pos) (tM (gd X ad) N pk (fun env dr => (ea env dr).bind fun x dr => (ofO (rcv m x) dr).bind fun x dr => (el env dr).bind fun ds dr => ofO (methD m x ds) dr)) := by
  have main : ∀ σ H Q, tM (gd X ad) N pk (fun env dr => (ea env dr).bind fun x dr => (ofO (rcv m x) dr).bind fun x dr => (el env dr).bind fun ds dr => ofO (methD m x ds) dr) σ H Q →
      tBM X.K (miTy m) (rMeth (gd X ad) m) (tM (gd X ad) N true ea) (tA (gd X ad) N el) σ H Q := fun σ H Q ⟨env, F, dr, st, k⟩ => by
    refine one st k fun x dr1 v H1 F1 st1 a r1 k1 => ?_
    obtain ⟨y, e1, k2⟩ := post_ofO (post_bind k1)
    have e2 := rcv_eq e1
    subst e2
    refine ⟨rcv_ty e1 r1 st1.po.s, ?_⟩
    refine tA_one st1 k2 fun ds dr2 vs H2 F2 st2 b r2 k3 => ?_
    obtain ⟨d, e3, k4⟩ := post_ofO k3
    exact ⟨F2, y, ds, d, st2.po.s, r1.step b, r2, e3, kont_of k4 st2.po.self⟩
  cases m with
  | join => exact PEw' (pe_bm PySem.F.plainAttrs_str PySem.F.slot_str_join PySem.F.type_str_join mt_join' ha hl hbase hfew hline hs hplain) main
  | get => exact PEw' (pe_bm PySem.F.plainAttrs_dict PySem.F.slot_dict_get PySem.F.type_dict_get (mt_get' hu) ha hl hbase hfew hline hs hplain) main
  | _ => cases hk
/-- the row of draws: its length, its last one taken -/
theorem m_dlen {i : Nat} {p p2 : Pos} {x : Str} (hg : Gl X "len") (hm : X.mg "len" = none) (h : PE X (.Name x p2) (tVar i)) : PE X (.Call (.Name "len" p) [.Name x p2] [] pos) (tM (gd X ad) N pk (fun env dr => match get env i with
    | .val .drw => .ok (.int dr.length) dr
    | _ => .bad)) := PEw' (pe_callB call_len_seq (by exact hg) hm PySem.boot_len (pa_cons h pa_nil rfl) (by decide) (by decide) rfl rfl) fun σ H Q ⟨env, F, dr, st, k⟩ => by
  have sl := st.slot i
  dsimp only at k
  cases q : get env i with
  | no => rw [q] at k; exact k.elim
  | own d => rw [q] at k; exact k.elim
  | val d =>
    rw [q] at k sl
    cases d <;> try (exact (False.elim k); done)
    obtain ⟨v, e3, r⟩ := sl
    obtain ⟨a, ea, rfl⟩ := (show ∃ a, ad = some a ∧ v = .ref a from r)
    refine ⟨_, e3, a, _, rfl, .inl (.of (st.po.dr a ea)), ?_⟩
    rw [List.length_map, List.length_reverse]
    exact k _ _ _ st.po.self (.inl rfl)
theorem m_dpop {i : Nat} {p apos : Pos} {x : Str} (h : PE X (.Name x p) (tVar i)) (hline : (apos.endLine == pos.line) = true) : PE X (.Call (.Attribute (.Name x p) "pop" apos) [] [] pos) (tM (gd X ad) N pk (fun env dr => match get env i, dr with
    | .val .drw, x :: r => .ok (.int x) r
    | _, _ => .bad)) := PEw' (pe_bm0 PySem.F.plainAttrs_list PySem.F.slot_list_pop PySem.F.type_list_pop mt_pop h rfl hline) fun σ H Q ⟨env, F, dr, st, k⟩ => by
  have sl := st.slot i
  dsimp only at k
  cases q : get env i with
  | no => rw [q] at k; exact k.elim
  | own d => rw [q] at k; exact k.elim
  | val d =>
    rw [q] at k sl
    cases d <;> try (exact (False.elim k); done)
    cases dr with
    | nil => exact k.elim
    | cons x r =>
      obtain ⟨v, e3, rr⟩ := sl
      obtain ⟨a, ea, rfl⟩ := (show ∃ a, ad = some a ∧ v = .ref a from rr)
      have hd := st.po.dr a ea
      refine ⟨_, e3, .inl ⟨rfl, _, .of hd⟩, a, _, .int x, rfl, rfl, hd, ?_, ?_⟩
      · rw [List.length_map, List.length_reverse, List.reverse_cons, List.map_append]
        simp
      · rw [List.reverse_cons, List.map_append, List.map_singleton, List.dropLast_concat]
        exact k _ _ _ (st.po.self.draw ea) (.inl rfl)
/-! ### backwards -/
theorem op_revS {e : Expr} {te : TE} {k : Nat} {p1 p2 p3 pos : Pos} (he : PE X e te) : PE X (.Subscript e (.Slice none none (some (.UnaryOp .USub (.Constant (.int 1) k p1) p2)) p3) pos)
    (fun σ H Q => te σ H fun x H1 => (∃ z, x = .str z ∧ z.length ≤ sizeLine ∧ Q (.str ⟨z.cps.toList.reverse.toArray⟩) H1) ∨ (∃ a xs, x = .ref a ∧ H1 a = some (.lst xs) ∧ ∀ p, H1 p = none → Q (.ref p) (upd H1 p (.lst xs.reverse)))) := by
  refine ⟨fun pins s σ H Q I h => ?_⟩
  refine Subscript_ (thn (he.run pins s σ H _ I h) fun v s1 ⟨x, H1, I1, r1, q1⟩ => ?_)
  have step : PO X (some (.UnaryOp .USub (.Constant (.int 1) k p1) p2)) (tPart (tUn (rU fun i => .int (-i)) (tC (.int 1)))) := po_some (pe_un un_neg pe_int)
  refine wpAny_Slice (thn (po_none.run pins s1 σ H1 (fun o H2 => o = none ∧ H2 = H1) I1 ⟨rfl, rfl⟩) fun vl s2 ⟨o1, H2, I2, pl, el, e2⟩ => ?_)
  subst el e2
  refine thn (po_none.run pins s2 σ H2 (fun o H3 => o = none ∧ H3 = H2) I2 ⟨rfl, rfl⟩) fun vu s3 ⟨o2, H3, I3, pu, eu, e3⟩ => ?_
  subst eu e3
  refine thn (step.run pins s3 σ H3 (fun o H4 => o = some (-1) ∧ H4 = H3) I3 ⟨1, rfl, -1, rfl, rfl, rfl⟩) fun vs s4 ⟨o3, H4, I4, ps, eo, e4⟩ => ?_
  subst eo e4
  have I5 : Inv X pins σ H4 { s4 with heap := s4.heap.push { cls := .type "slice", data := .fields #[vl, vu, vs] } } := I4.kept (t' := s4.toks) fun b ob q => Heap.get?_push_of_some _ q
  rcases q1 with ⟨z, rfl, hz, q⟩ | ⟨a, xs, rfl, hx, q⟩
  · obtain ⟨t, rfl⟩ := r1
    obtain ⟨l, rfl, el⟩ := IsPart.raw pl
    obtain ⟨u, rfl, eu⟩ := IsPart.raw pu
    obtain ⟨st, rfl, es⟩ := IsPart.raw ps
    cases l with
    | some _ => cases el
    | none =>
      cases u with
      | some _ => cases eu
      | none =>
        show wpAny (model X.prog X.w) X.A (subscriptTail e (.Slice none none (some (.UnaryOp .USub (.Constant (.int 1) k p1) p2)) p3) (.str z t) (.ref s4.heap.objs.size)) (EP X pins σ Q) X.xe { s4 with heap := s4.heap.push { cls := .type "slice", data := .fields #[partValue none, partValue none, partValue st] } }
        refine tail_any (ops := [.str z t, .ref s4.heap.objs.size]) (typeIs_str _ _ _) PySem.F.slot_str_getitem.lookup ?_ (by with_unfolding_all rfl)
        refine wpAny_getItem_str_slice (l := none) (u := none) (st := st) (Heap.IsSliceOf.new _ _ _ _) (by rw [es]; decide) ?_
        have e5 : (slicePicked z none none st) = (List.range z.length).map fun k => z.length - 1 - k := by
          unfold slicePicked
          rw [es]
          exact picked_rev z.length
        have e6 : ((slicePicked z none none st).filterMap (z.cps[·]?)) = z.cps.toList.reverse := by
          rw [e5]
          refine List.ext_getElem? fun j => ?_
          rw [filterMap_get, List.map_map, List.getElem?_map]
          · by_cases hj : j < z.length
            · rw [List.getElem?_range hj, List.getElem?_reverse (by rw [Array.length_toList]; exact hj)]
              have hj2 : z.length - 1 - j < z.cps.toList.length := by rw [Array.length_toList]; show _ < z.length; omega
              rw [show z.cps.toList.length - 1 - j = z.length - 1 - j by rw [Array.length_toList]; rfl, List.getElem?_eq_getElem hj2]
              show some (z.cps.getD (z.length - 1 - j) 0) = _
              simp [Array.getD, show z.length - 1 - j < z.cps.size from by rw [Array.length_toList] at hj2; exact hj2]
            · rw [List.getElem?_eq_none (by rw [List.length_range]; omega), List.getElem?_eq_none (by rw [List.length_reverse, Array.length_toList]; show z.length ≤ j; omega)]
              rfl
          · intro i hi
            obtain ⟨k2, hk, rfl⟩ := List.mem_map.mp hi
            have hk' : k2 < z.length := List.mem_range.mp hk
            show z.length - 1 - k2 < z.length
            omega
        unfold sliceMade
        rw [es]
        rw [if_neg (by simp)]
        rw [e6]
        refine ⟨?_, ⟨.str ⟨z.cps.toList.reverse.toArray⟩, H4, I5.tok _, ⟨_, rfl⟩, q⟩⟩
        show (z.cps.toList.reverse.toArray).size ≤ sizeLine
        rw [List.size_toArray, List.length_reverse, Array.length_toList]
        exact hz
  · cases r1
    obtain ⟨its, rr, ht, hz⟩ := I5.list (.of hx)
    have hl := rr.length
    show wpAny (model X.prog X.w) X.A (subscriptTail e (.Slice none none (some (.UnaryOp .USub (.Constant (.int 1) k p1) p2)) p3) (.ref a) (.ref s4.heap.objs.size)) (EP X pins σ Q) X.xe
      { s4 with heap := s4.heap.push { cls := .type "slice", data := .fields #[vl, vu, vs] } }
    refine tail_any (ops := [.ref a, .ref s4.heap.objs.size]) ht.isList.typeIs PySem.slot_list_getitem.lookup
      (wpAny_getItem_list_slice ht.isList (Heap.IsSliceOf.new _ vl vu vs) pl pu ps (by decide) ?_ (by rw [List.size_toArray]; omega)) (by with_unfolding_all rfl)
    rw [PySem.W.krv_pick]
    exact ⟨.ref _, _, I5.laid (t' := s4.toks) (o := .lst xs.reverse) (fun _ _ z => Heap.get?_push_of_some _ z) (Nat.le_refl _) ⟨by rw [List.length_reverse]; exact hz, _, 0, rr.reverse, Heap.get?_push_size _ rfl⟩, rfl, q _ (I5.hok.fresh (Nat.le_refl _))⟩
def revOk : D → Option D
  | .lst ds => some (.lst ds.reverse)
  | .str s => grd (szOk s.length) (.str ⟨s.cps.toList.reverse.toArray⟩)
  | _ => none
theorem m_rev {k : Nat} {p1 p2 p3 : Pos} {ea : Env → List Int → Res D} (ha : PE X l (tM (gd X ad) N true ea)) : PE X (.Subscript l (.Slice none none (some (.UnaryOp .USub (.Constant (.int 1) k p1) p2)) p3) pos)
    (tM (gd X ad) N pk (fun env dr => (ea env dr).bind fun x dr => ofO (revD x) dr)) := PEw' (op_revS ha) fun σ H Q ⟨env, F, dr, st, k⟩ => by
  refine one st k fun x dr1 v H1 F1 st1 a r1 k1 => ?_
  obtain ⟨d, e1, k3⟩ := post_ofO k1
  cases x with
  | str z =>
    obtain ⟨h1, rfl⟩ := grd_some (show grd (szOk z.length) (D.str ⟨z.cps.toList.reverse.toArray⟩) = some d from e1)
    cases rq_str r1
    exact .inl ⟨z, rfl, szOk_le h1, (kont_of k3 st1.po.self).1 _ rfl⟩
  | lst ds =>
    cases (show some (D.lst ds.reverse) = some d from e1)
    obtain ⟨p, vs, rfl, h1, t, l1⟩ := rq_lst r1 st1.po.s
    exact .inr ⟨p, vs, rfl, h1, fun q hq => (kont_of k3 st1.po.self).fresh st1.po.s _ _ hq (own_lst t.rev (by rw [List.length_reverse]; exact l1))⟩
  | _ => cases e1

/-! ### walks -/
def Cond (g : Gd) (pk : Bool) (F H F1 H1 : Hp) : Prop := Sub F F1 ∧ Sub F1 H1 ∧ (pk = true → ∀ b o, H b = some o → some b ≠ g.ad → H1 b = some o)
/-- J walks just these trees, as long as what is known stays -/
structure ItD (g : Gd) (pk : Bool) (F0 H0 : Hp) (J : It) (ds : List D) : Prop where
  go : ∀ i F1 H1, i < ds.length → Cond g pk F0 H0 F1 H1 → J.go i H1
  stop : ∀ F1 H1, Cond g pk F0 H0 F1 H1 → J.stop ds.length H1
  yld : ∀ i F1 H1 x H2, i < ds.length → Cond g pk F0 H0 F1 H1 → J.yld i H1 x H2 → ∃ d, ds[i]? = some d ∧ ((H2 = H1 ∧ Rep g F1 d x) ∨ ∃ T o, H1 T = none ∧ H2 = upd H1 T o ∧ Rep g (upd F1 T o) d x)
def tI (g : Gd) (N : En) (pk : Bool) (ev : Env → List Int → Res (List D)) : TI := fun σ H R => ∃ env F dr, StR g N.F0 N.H0 σ env F H dr ∧
  (ev env dr).post (fun ds dr' => ∀ J H' F', Post g F H F' H' dr' → ItD g pk F' H' J ds → ds.length ≤ sizeLine → R J H') (EX g N.W F H σ)
theorem PIw' {tg it : Expr} {t t' : TI} (h : PI X tg it t) (i : ∀ σ H R, t' σ H R → t σ H R) : PI X tg it t' := ⟨fun pins s σ H R I q => h.run pins s σ H R I (i _ _ _ q)⟩
/-- a value of F, or an own one, stands while the condition stands -/
theorem cond_lst {g : Gd} {F H F1 H1 : Hp} {ds : List D} {v : V} (h : RepQ g pk F H (.lst ds) v) (s : Sub F H) : ∃ p vs, v = .ref p ∧ H p = some (.lst vs) ∧ Reps g F ds vs ∧ ds.length ≤ sizeLine ∧ ∀ F1 H1, Cond g pk F H F1 H1 → H1 p = some (.lst vs) ∧ Reps g F1 ds vs := by
  rcases h with ⟨l, a, vs, rfl, k, r⟩ | ⟨e, p, rfl, n, l, vs, k, r⟩
  · exact ⟨a, vs, rfl, s _ _ k, r, l, fun F1 H1 c => ⟨c.2.1 _ _ (c.1 _ _ k), Reps.mono c.1 _ _ r⟩⟩
  · exact ⟨p, vs, rfl, k, r, l, fun F1 H1 c => ⟨c.2.2 e _ _ k n, Reps.mono c.1 _ _ r⟩⟩
theorem cond_tup {g : Gd} {F H : Hp} {ds : List D} {v : V} (h : RepQ g pk F H (.tup ds) v) (s : Sub F H) : ∃ p vs, v = .ref p ∧ H p = some (.tup vs) ∧ Reps g F ds vs ∧ ds.length ≤ sizeLine ∧ ∀ F1 H1, Cond g pk F H F1 H1 → H1 p = some (.tup vs) ∧ Reps g F1 ds vs := by
  rcases h with ⟨l, a, vs, rfl, k, r⟩ | ⟨e, p, rfl, n, z⟩
  · exact ⟨a, vs, rfl, s _ _ k, r, l, fun F1 H1 c => ⟨c.2.1 _ _ (c.1 _ _ k), Reps.mono c.1 _ _ r⟩⟩
  · exact z.elim
theorem itd_list {g : Gd} {F H : Hp} {ds : List D} {p : Addr} {vs : List V} (c : ∀ F1 H1, Cond g pk F H F1 H1 → H1 p = some (.lst vs) ∧ Reps g F1 ds vs) : ItD g pk F H (Itl g.K p) ds where
  go := fun i F1 H1 hi hc => by
    obtain ⟨h1, r⟩ := c F1 H1 hc
    have : i < vs.length := by rw [r.len]; exact hi
    exact ⟨vs, vs[i], .of h1, List.getElem?_eq_getElem this⟩
  stop := fun F1 H1 hc => by
    obtain ⟨h1, r⟩ := c F1 H1 hc
    exact ⟨vs, .of h1, Nat.le_of_eq r.len⟩
  yld := fun i F1 H1 x H2 hi hc y => by
    obtain ⟨h1, r⟩ := c F1 H1 hc
    obtain ⟨rfl, y⟩ := y
    obtain ⟨d, e, r2⟩ := r.get2 (y vs (.of h1))
    exact ⟨d, e, .inl ⟨rfl, r2⟩⟩
theorem itd_tup {g : Gd} {F H : Hp} {ds : List D} {p : Addr} {vs : List V} (c : ∀ F1 H1, Cond g pk F H F1 H1 → H1 p = some (.tup vs) ∧ Reps g F1 ds vs) : ItD g pk F H (Itt g.K p) ds where
  go := fun i F1 H1 hi hc => by
    obtain ⟨h1, r⟩ := c F1 H1 hc
    have : i < vs.length := by rw [r.len]; exact hi
    exact ⟨vs, vs[i], .of h1, List.getElem?_eq_getElem this⟩
  stop := fun F1 H1 hc => by
    obtain ⟨h1, r⟩ := c F1 H1 hc
    exact ⟨vs, .of h1, Nat.le_of_eq r.len⟩
  yld := fun i F1 H1 x H2 hi hc y => by
    obtain ⟨h1, r⟩ := c F1 H1 hc
    obtain ⟨rfl, y⟩ := y
    obtain ⟨d, e, r2⟩ := r.get2 (y vs (.of h1))
    exact ⟨d, e, .inl ⟨rfl, r2⟩⟩
theorem itd_str {g : Gd} {F H : Hp} {z : Str} : ItD g pk F H (Its z) (z.cps.toList.map fun c => .str ⟨#[c]⟩) where
  go := fun i F1 H1 hi hc => by
    rw [List.length_map, Array.length_toList] at hi
    exact hi
  stop := fun F1 H1 hc => by
    rw [List.length_map, Array.length_toList]
    exact Nat.le_refl _
  yld := fun i F1 H1 x H2 hi hc y => by
    obtain ⟨rfl, c, e, rfl⟩ := y
    refine ⟨.str ⟨#[c]⟩, ?_, .inl ⟨rfl, rfl⟩⟩
    rw [List.getElem?_map, Array.getElem?_toList, e]
    rfl
theorem rngL_get {i : Int} {n : Nat} {c : Int} {k : Nat} (h : k < n) : (rngL i n c)[k]? = some (.int (i + (k : Nat) * c)) := by
  unfold rngL
  rw [List.getElem?_map, List.getElem?_range h]
  rfl
theorem rngL_len (i : Int) (n : Nat) (c : Int) : (rngL i n c).length = n := by
  unfold rngL
  rw [List.length_map, List.length_range]
theorem itd_rng {g : Gd} {F H : Hp} {lo : Int} {n : Nat} : ItD g pk F H (Itr lo n) (rngL lo n 1) where
  go := fun i F1 H1 hi hc => by rw [rngL_len] at hi; exact hi
  stop := fun F1 H1 hc => by rw [rngL_len]; exact Nat.le_refl _
  yld := fun i F1 H1 x H2 hi hc y => by
    rw [rngL_len] at hi
    obtain ⟨rfl, rfl⟩ := y
    refine ⟨_, rngL_get hi, .inl ⟨rfl, ?_⟩⟩
    rw [Int.mul_one]
    rfl
theorem itd_rngC {g : Gd} {F H : Hp} {lo c : Int} {n : Nat} : ItD g pk F H (Itc lo c n) (rngL lo n c) where
  go := fun i F1 H1 hi hc => by rw [rngL_len] at hi; exact hi
  stop := fun F1 H1 hc => by rw [rngL_len]; exact Nat.le_refl _
  yld := fun i F1 H1 x H2 hi hc y => by
    rw [rngL_len] at hi
    obtain ⟨rfl, rfl⟩ := y
    exact ⟨_, rngL_get hi, .inl ⟨rfl, rfl⟩⟩
theorem itd_ilst {g : Gd} {F H : Hp} {is : List Int} {p : Addr} (h : SqL g.K F p (is.map V.int)) : ItD g pk F H (Itl g.K p) (is.map .int) where
  go := fun i F1 H1 hi hc => ⟨_, _, sqL_sub (hc.1.trans hc.2.1) h, List.getElem?_eq_getElem (by rw [List.length_map] at hi ⊢; exact hi)⟩
  stop := fun F1 H1 hc => ⟨_, sqL_sub (hc.1.trans hc.2.1) h, by rw [List.length_map, List.length_map]; exact Nat.le_refl _⟩
  yld := fun i F1 H1 x H2 hi hc y => by
    obtain ⟨rfl, y⟩ := y
    have e := y _ (sqL_sub (hc.1.trans hc.2.1) h)
    rw [List.length_map] at hi
    rw [List.getElem?_map, List.getElem?_eq_getElem hi] at e
    have e : some (V.int is[i]) = some x := e
    cases e
    exact ⟨.int is[i], by rw [List.getElem?_map, List.getElem?_eq_getElem hi]; rfl, .inl ⟨rfl, rfl⟩⟩
/-- a list, a tuple, a text walked -/
theorem i_seq {tg it : Expr} {ea : Env → List Int → Res D} (ha : PE X it (tM (gd X ad) N pk ea)) : PI X tg it (tI (gd X ad) N pk (fun env dr => (ea env dr).bind fun d dr => ofO (iterD d) dr)) := by
  refine ⟨fun pins s σ H R I ⟨env, F, dr, st, k⟩ => ?_⟩
  have hq : tM (gd X ad) N pk ea σ H (fun v H1 => ∃ F1 d dr1 xs, Post (gd X ad) F H F1 H1 dr1 ∧ RepQ (gd X ad) pk F1 H1 d v ∧ iterD d = some xs ∧ ∀ J H' F', Post (gd X ad) F H F' H' dr1 → ItD (gd X ad) pk F' H' J xs → xs.length ≤ sizeLine → R J H') := by
    refine ⟨env, F, dr, st, (post_bind k).imp (fun d dr1 h1 v H1 F1 a r1 => ?_) fun _ _ z => z⟩
    obtain ⟨xs, e1, k3⟩ := post_ofO h1
    exact ⟨F1, d, dr1, xs, a, r1, e1, k3⟩
  refine thn (ha.run pins s σ H _ I hq) fun v s1 ⟨x, H1, I1, rx, F1, d, dr1, xs, a, r1, e1, k3⟩ => ?_
  have one_it : ∀ b ∈ [s1.heap.objs.size], FpOk X pins H1 b := fun b hb => by
    cases List.mem_singleton.mp hb
    exact I1.fpOk (Nat.le_refl _) (I1.hok.fresh (Nat.le_refl _))
  cases d with
  | lst ds =>
    cases (show some ds = some xs from e1)
    obtain ⟨p, vs, rfl, h1, t, l1, c⟩ := cond_lst (F1 := F1) (H1 := H1) r1 a.s
    cases rx
    obtain ⟨its, rv, pl, hz⟩ := I1.list (.of h1)
    exact wpAny_pyIter_list pl.isList ⟨s1.heap.objs.size, [s1.heap.objs.size], _, _, H1, rfl, I1.kept (t' := s1.toks) fun _ _ z => Heap.get?_push_of_some _ z, turn_list p _, ⟨_, Heap.get?_push_size _ rfl, rfl, rfl⟩, one_it, k3 _ H1 F1 a (itd_list c) l1⟩
  | tup ds =>
    cases (show some ds = some xs from e1)
    obtain ⟨p, vs, rfl, h1, t, l1, c⟩ := cond_tup r1 a.s
    cases rx
    obtain ⟨its, rv, pl, hz⟩ := I1.tuple (.of h1)
    exact wpAny_pyIter_tuple (show s1.heap.IsTuple p its.toArray from pl) ⟨s1.heap.objs.size, [s1.heap.objs.size], _, _, H1, rfl, I1.kept (t' := s1.toks) fun _ _ z => Heap.get?_push_of_some _ z, turn_tuple p _, ⟨_, Heap.get?_push_size _ rfl, rfl, rfl⟩, one_it, k3 _ H1 F1 a (itd_tup c) l1⟩
  | str z =>
    obtain ⟨h1, rfl⟩ := grd_some (show grd (szOk z.length) (z.cps.toList.map fun c => D.str ⟨#[c]⟩) = some xs from e1)
    cases rq_str r1
    obtain ⟨t, rfl⟩ := rx
    have fin : R (Its z) H1 := k3 _ H1 F1 a itd_str (by rw [List.length_map, Array.length_toList]; exact szOk_le h1)
    cases hb : z.cps.all (· < 128) with
    | false => exact wpAny_pyIter_wide hb (pi_one (tk := s1.toks) I1 _ (turn_str _ z t "str_iterator" (.inr rfl)) ⟨_, Heap.get?_push_size _ rfl, rfl, rfl⟩ fin)
    | true => exact wpAny_pyIter_ascii hb (pi_one (tk := s1.toks) I1 _ (turn_str _ z t "str_ascii_iterator" (.inl rfl)) ⟨_, Heap.get?_push_size _ rfl, rfl, rfl⟩ fin)
  | ilst is =>
    cases (show some (is.map D.int) = some xs from e1)
    obtain ⟨l1, p, rfl, h1⟩ : is.length ≤ sizeLine ∧ ∃ a, x = .ref a ∧ SqL X.K F1 a (is.map V.int) := by
      rcases r1 with h | ⟨_, _, _, _, z⟩
      · exact h
      · exact z.elim
    cases rx
    obtain ⟨its, rv, pl, hz⟩ := I1.list (sqL_sub a.s h1)
    exact wpAny_pyIter_list pl.isList ⟨s1.heap.objs.size, [s1.heap.objs.size], _, _, H1, rfl, I1.kept (t' := s1.toks) fun _ _ z => Heap.get?_push_of_some _ z, turn_list p _, ⟨_, Heap.get?_push_size _ rfl, rfl, rfl⟩, one_it, k3 _ H1 F1 a (itd_ilst h1) (by rw [List.length_map]; exact l1)⟩
  | _ => cases e1
theorem range_one {g : Gd} {F H : Hp} {ds : List D} {vs : List V} (h : RepsQ g F H ds vs) {xs : List D} (e : rngD ds = some xs) : (∃ j, ds = [.int j] ∧ vs = [.int j]) ∨ (∃ i j, ds = [.int i, .int j] ∧ vs = [.int i, .int j]) ∨ ∃ i j c, ds = [.int i, .int j, .int c] ∧ vs = [.int i, .int j, .int c] := by
  cases ds with
  | nil => cases e
  | cons d1 t =>
    obtain ⟨w, ws, rfl, r1, t1⟩ := h
    cases t with
    | nil =>
      cases (show ws = [] from t1)
      cases d1 <;> try (cases e; done)
      cases rq_int r1
      exact .inl ⟨_, rfl, rfl⟩
    | cons d2 t =>
      obtain ⟨w2, ws2, rfl, r2, t2⟩ := t1
      cases t with
      | nil =>
        cases (show ws2 = [] from t2)
        cases d1 <;> cases d2 <;> try (cases e; done)
        cases rq_int r1
        cases rq_int r2
        exact .inr (.inl ⟨_, _, rfl, rfl⟩)
      | cons d3 t =>
        obtain ⟨w3, ws3, rfl, r3, t3⟩ := t2
        cases t with
        | cons _ _ => cases d1 <;> cases d2 <;> cases d3 <;> cases e
        | nil =>
          cases (show ws3 = [] from t3)
          cases d1 <;> cases d2 <;> cases d3 <;> try (cases e; done)
          cases rq_int r1
          cases rq_int r2
          cases rq_int r3
          exact .inr (.inr ⟨_, _, _, rfl, rfl⟩)
theorem i_rng1 {tg a1 : Expr} {p : Pos} {el : Env → List Int → Res (List D)} (hg : Gl X "range") (hm : X.mg "range" = none) (ha : PA X [a1] (tAp (gd X ad) N el)) (h1 : ∀ env dr ds dr', el env dr = .ok ds dr' → ds.length = 1) (hs : starEach [a1] X.env = [(false, eval a1 X.env)]) :
    PI X tg (.Call (.Name "range" p) [a1] [] pos) (tI (gd X ad) N pk (fun env dr => (el env dr).bind fun ds dr => ofO (rngD ds) dr)) := PIw' (pi_range1 hg hm ha hs) fun σ H R ⟨env, F, dr, st, k⟩ => by
  refine ⟨env, F, dr, st, ?_⟩
  have k' := post_bind k
  cases q : el env dr with
  | bad => rw [q] at k'; exact k'
  | exc e dr1 => rw [q] at k'; exact k'
  | ok ds dr1 =>
    rw [q] at k'
    have hl := h1 _ _ _ _ q
    show ∀ vs H' F', _ → _ → _
    intro vs H1 F1 a r1
    obtain ⟨xs, e1, k3⟩ := post_ofO (show (ofO (rngD ds) dr1).post _ _ from k')
    rcases range_one r1 e1 with ⟨j, rfl, rfl⟩ | ⟨i, j, rfl, rfl⟩ | ⟨i, j, c, rfl, rfl⟩
    · obtain ⟨h2, rfl⟩ := grd_some (show grd (in62 j && szOk j.toNat) (rngL 0 j.toNat 1) = some xs from e1)
      rw [Bool.and_eq_true] at h2
      have h3 := of_decide_eq_true h2.1
      exact ⟨j, rfl, h3.1, h3.2, k3 _ H1 F1 a itd_rng (by rw [rngL_len]; exact szOk_le h2.2)⟩
    · simp at hl
    · simp at hl
theorem i_rng2 {tg a1 a2 : Expr} {p : Pos} {el : Env → List Int → Res (List D)} (hg : Gl X "range") (hm : X.mg "range" = none) (ha : PA X [a1, a2] (tAp (gd X ad) N el)) (h1 : ∀ env dr ds dr', el env dr = .ok ds dr' → ds.length = 2)
    (hs : starEach [a1, a2] X.env = [(false, eval a1 X.env), (false, eval a2 X.env)]) (hs2 : starEach [a2] X.env = [(false, eval a2 X.env)]) :
    PI X tg (.Call (.Name "range" p) [a1, a2] [] pos) (tI (gd X ad) N pk (fun env dr => (el env dr).bind fun ds dr => ofO (rngD ds) dr)) := PIw' (pi_range2 hg hm ha hs hs2) fun σ H R ⟨env, F, dr, st, k⟩ => by
  refine ⟨env, F, dr, st, ?_⟩
  have k' := post_bind k
  cases q : el env dr with
  | bad => rw [q] at k'; exact k'
  | exc e dr1 => rw [q] at k'; exact k'
  | ok ds dr1 =>
    rw [q] at k'
    have hl := h1 _ _ _ _ q
    show ∀ vs H' F', _ → _ → _
    intro vs H1 F1 a r1
    obtain ⟨xs, e1, k3⟩ := post_ofO (show (ofO (rngD ds) dr1).post _ _ from k')
    rcases range_one r1 e1 with ⟨j, rfl, rfl⟩ | ⟨i, j, rfl, rfl⟩ | ⟨i, j, c, rfl, rfl⟩
    · simp at hl
    · obtain ⟨h2, rfl⟩ := grd_some (show grd (in62 i && in62 j && szOk (j - i).toNat) (rngL i (j - i).toNat 1) = some xs from e1)
      rw [Bool.and_eq_true, Bool.and_eq_true] at h2
      have h3 := of_decide_eq_true h2.1.1
      have h4 := of_decide_eq_true h2.1.2
      exact ⟨i, j, rfl, ⟨h3.1, h3.2, h4.1, h4.2⟩, k3 _ H1 F1 a itd_rng (by rw [rngL_len]; exact szOk_le h2.2)⟩
    · simp at hl

/-! ### patterns -/
def gP (g : Gd) (N : En) (p : Pat) : TG := fun v σ H Q => ∃ env F dr d, StR g N.F0 N.H0 σ env F H dr ∧ Rep g F d v ∧ ∃ env', asgP p d env = some env' ∧
  ∀ σ', StR g N.F0 N.H0 σ' env' F H dr → σ'.length = σ.length → (∀ i, i ∉ slots p → σ'[i]? = σ[i]?) → Q σ' H
def gPs (g : Gd) (N : En) (p : Pat) : TGs := fun vs σ H Q => ∃ env F dr ds, StR g N.F0 N.H0 σ env F H dr ∧ Reps g F ds vs ∧ ∃ env', asgP p (.lst ds) env = some env' ∧
  ∀ σ', StR g N.F0 N.H0 σ' env' F H dr → σ'.length = σ.length → (∀ i, i ∉ slots p → σ'[i]? = σ[i]?) → Q σ' H
theorem PGw' {tg : Expr} {t t' : TG} (h : PG X tg t) (i : ∀ v σ H Q, t' v σ H Q → t v σ H Q) : PG X tg t' := ⟨fun pins s σ H v u Q I r q => h.run pins s σ H v u Q I r (i _ _ _ _ q)⟩
theorem PGsw' {ts : List Expr} {t t' : TGs} (h : PGs X ts t) (i : ∀ v σ H Q, t' v σ H Q → t v σ H Q) : PGs X ts t' := ⟨fun pins s σ H v u Q I r q => h.run pins s σ H v u Q I r (i _ _ _ _ q)⟩
theorem g_nm {i : Nat} {x : Str} {p : Pos} (hN : X.N.Nodup) (hi : X.N[i]? = some x) (hx : Loc X.env.scope x) (hf : X.fn x = true ∨ X.env.scope.names.lookup x = some .local) : PG X (.Name x p) (gP (gd X ad) N (.nm i)) := PGw' (pg_name hN hi hx hf) fun v σ H Q ⟨env, F, dr, d, st, r, env', e, k⟩ => by
  have e' : (if i < env.length then some (env.set i (.val d)) else none) = some env' := e
  split at e'
  · rename_i hl
    cases e'
    exact k _ (st.setV hl r) (by rw [List.length_set]) fun j hj => by
      have hne : ¬ i = j := fun z => hj (by rw [z]; exact List.mem_singleton.mpr rfl)
      rw [List.getElem?_set_ne hne]
  · cases e'
theorem gs_nil : PGs X [] (gPs (gd X ad) N .nil) := PGsw' pgs_nil fun vs σ H Q ⟨env, F, dr, ds, st, r, env', e, k⟩ => by
  cases ds with
  | nil =>
    cases (show some env = some env' from e)
    exact ⟨r, k σ st rfl fun _ _ => rfl⟩
  | cons _ _ => cases e
theorem gs_cons {e1 : Expr} {es : List Expr} {p ps : Pat} (h1 : PG X e1 (gP (gd X ad) N p)) (h2 : PGs X es (gPs (gd X ad) N ps)) (hs : (assignEach (e1 :: es) X.env).map (·.2) = assign e1 X.env :: (assignEach es X.env).map (·.2)) :
    PGs X (e1 :: es) (gPs (gd X ad) N (.cons p ps)) := PGsw' (pgs_cons h1 h2 hs) fun vs σ H Q ⟨env, F, dr, ds, st, r, env', e, k⟩ => by
  cases ds with
  | nil => cases e
  | cons d ds =>
    obtain ⟨w, ws, rfl, r1, r2⟩ := r
    have e' : (asgP p d env).bind (fun env => asgP ps (.lst ds) env) = some env' := e
    cases q : asgP p d env with
    | none => rw [q] at e'; cases e'
    | some env1 =>
      rw [q] at e'
      refine ⟨w, ws, rfl, env, F, dr, d, st, r1, env1, q, fun σ1 st1 l1 o1 => ?_⟩
      exact ⟨env1, F, dr, ds, st1, r2, env', e', fun σ2 st2 l2 o2 => k σ2 st2 (l2.trans l1) fun j hj => by
        have hj' : ¬ (j ∈ slots p ∨ j ∈ slots ps) := fun z => hj (List.mem_append.mpr z)
        rw [o2 j (fun z => hj' (.inr z)), o1 j (fun z => hj' (.inl z))]⟩
theorem asgP_len : ∀ (p : Pat) (ds : List D) (env env' : Env), asgP p (.lst ds) env = some env' → (∃ n, p = .nm n) ∨ (∃ q, p = .tp q) ∨ True := fun _ _ _ _ _ => .inr (.inr trivial)
def patLen : Pat → Nat
  | .cons _ ps => patLen ps + 1
  | _ => 0
def patRow : Pat → Bool
  | .nil => true
  | .cons _ ps => patRow ps
  | _ => false
theorem patLen_ok : ∀ (p : Pat) (ds : List D) (env env' : Env), patRow p = true → asgP p (.lst ds) env = some env' → ds.length = patLen p
  | .nil, ds, env, env', _, e => by
    cases ds with
    | nil => rfl
    | cons _ _ => cases e
  | .cons p ps, ds, env, env', h, e => by
    cases ds with
    | nil => cases e
    | cons d ds =>
      have e' : (asgP p d env).bind (fun env => asgP ps (.lst ds) env) = some env' := e
      cases q : asgP p d env with
      | none => rw [q] at e'; cases e'
      | some env1 =>
        rw [q] at e'
        have := patLen_ok ps ds env1 env' h e'
        simp only [List.length_cons, this]
        rfl
  | .nm _, _, _, _, h, _ => by cases h
  | .tp _, _, _, _, h, _ => by cases h
theorem g_tp {es : List Expr} {k : Nat} {p : Pos} {ps : Pat} (hc : X.calm = true) (h : PGs X es (gPs (gd X ad) N ps)) (hp : patRow ps = true) (hn : (assignEach es X.env).length = patLen ps) (hst : (assignEach es X.env).findIdx? (·.1) = none) :
    PG X (.Tuple es k p) (gP (gd X ad) N (.tp ps)) := by
  refine ⟨fun pins s σ H v u Q I r q => ?_⟩
  obtain ⟨env, F, dr, d, st, rd, env', e, kk⟩ := q
  cases d with
  | tup ds =>
    obtain ⟨l, a, vs, rfl, h1, t⟩ := rd
    exact (pg_tup hc h hn hst).run pins s σ H _ u Q I r ⟨a, vs, rfl, .of (st.po.s _ _ h1), by rw [t.len]; exact patLen_ok ps ds env env' hp e, env, F, dr, ds, st, t, env', e, kk⟩
  | lst ds =>
    obtain ⟨l, a, vs, rfl, h1, t⟩ := rd
    exact (pg_lst hc h hn hst).run pins s σ H _ u Q I r ⟨a, vs, rfl, .of (st.po.s _ _ h1), by rw [t.len]; exact patLen_ok ps ds env env' hp e, env, F, dr, ds, st, t, env', e, kk⟩
  | _ => cases e

/-! ### comprehensions -/
theorem wipe_get (σ : L2.St) (j : Nat) : ∀ vs : List Nat, (wipe σ vs)[j]? = if j ∈ vs then (σ[j]?).map (fun _ => none) else σ[j]?
  | [] => by simp [wipe]
  | v :: vs => by
    unfold wipe
    by_cases h : v = j
    · subst h
      by_cases hl : v < σ.length
      · rw [List.getElem?_set_self (by rw [wipe_length]; exact hl), if_pos List.mem_cons_self, List.getElem?_eq_getElem hl]
        rfl
      · rw [List.getElem?_eq_none (by rw [List.length_set, wipe_length]; omega), if_pos List.mem_cons_self, List.getElem?_eq_none (by omega)]
        rfl
    · rw [List.getElem?_set_ne h, wipe_get σ j vs]
      by_cases hj : j ∈ vs
      · rw [if_pos hj, if_pos (List.mem_cons_of_mem _ hj)]
      · rw [if_neg hj, if_neg (fun z => by rcases List.mem_cons.mp z with z | z <;> first | exact h z.symm | exact hj z)]
theorem wipe_same {σ σ' : L2.St} {vs : List Nat} (hl : σ'.length = σ.length) (h : ∀ i, i ∉ vs → σ'[i]? = σ[i]?) : wipe σ' vs = wipe σ vs := by
  refine List.ext_getElem? fun j => ?_
  rw [wipe_get, wipe_get]
  by_cases hj : j ∈ vs
  · rw [if_pos hj, if_pos hj]
    by_cases hb : j < σ.length
    · rw [List.getElem?_eq_getElem hb, List.getElem?_eq_getElem (show j < σ'.length by omega)]
      rfl
    · rw [List.getElem?_eq_none (show σ.length ≤ j by omega), List.getElem?_eq_none (show σ'.length ≤ j by omega)]
  · rw [if_neg hj, if_neg hj]
    exact h j hj
theorem wipe_wipe (σ : L2.St) (vs : List Nat) : wipe (wipe σ vs) vs = wipe σ vs := wipe_same (wipe_length _ _) fun i hi => by rw [wipe_get, if_neg hi]
theorem wipeE_get (env : Env) (j : Nat) : ∀ vs : List Nat, get (wipeE env vs) j = if j ∈ vs then .no else get env j
  | [] => by simp [wipeE]
  | v :: vs => by
    have hl : ∀ (vs : List Nat), (wipeE env vs).length = env.length := by
      intro vs
      induction vs with
      | nil => rfl
      | cons v vs ih => show ((wipeE env vs).set v .no).length = _; rw [List.length_set, ih]
    show get ((wipeE env vs).set v .no) j = _
    rw [get_set, hl, wipeE_get env j vs]
    by_cases h : v = j
    · subst h
      by_cases hb : v < env.length
      · rw [if_pos ⟨rfl, hb⟩, if_pos List.mem_cons_self]
      · rw [if_neg (fun z => hb z.2), if_pos List.mem_cons_self]
        have : get env v = .no := by
          unfold get
          rw [List.getD_eq_getElem?_getD, List.getElem?_eq_none (by omega)]
          rfl
        rw [this]
        split <;> rfl
    · rw [if_neg (fun z => h z.1)]
      by_cases hj : j ∈ vs
      · rw [if_pos hj, if_pos (List.mem_cons_of_mem _ hj)]
      · rw [if_neg hj, if_neg (fun z => by rcases List.mem_cons.mp z with z | z <;> first | exact h z.symm | exact hj z)]
theorem wipeE_len (env : Env) : ∀ vs : List Nat, (wipeE env vs).length = env.length
  | [] => rfl
  | v :: vs => by show ((wipeE env vs).set v .no).length = _; rw [List.length_set, wipeE_len env vs]
theorem StR.wipe {g : Gd} {F0 H0 F H : Hp} {dr : List Int} {σ : L2.St} {env : Env} (st : StR g F0 H0 σ env F H dr) (vs : List Nat) : StR g F0 H0 (wipe σ vs) (wipeE env vs) F H dr := by
  refine ⟨st.po, by rw [wipe_length, wipeE_len]; exact st.len, fun i => ?_, fun i j d e p h1 h2 h3 h4 => ?_⟩
  · rw [wipeE_get, wipe_get]
    by_cases hi : i ∈ vs
    · rw [if_pos hi, if_pos hi]
      trivial
    · rw [if_neg hi, if_neg hi]
      exact st.slot i
  · rw [wipeE_get] at h1 h2
    rw [wipe_get] at h3 h4
    by_cases hi : i ∈ vs
    · rw [if_pos hi] at h1; cases h1
    · by_cases hj : j ∈ vs
      · rw [if_pos hj] at h2; cases h2
      · rw [if_neg hi] at h1 h3
        rw [if_neg hj] at h2 h4
        exact st.apart i j d e p h1 h2 h3 h4
/-- within a comprehension no error is wished for -/
def En.blk (N : En) : En := ⟨N.F0, N.H0, fun _ _ _ _ => False⟩
theorem lcL_len {b : D → List Int → Res (Option D)} : ∀ (xs : List D) (dr : List Int) (ys : List D) (dr2 : List Int), lcL b xs dr = .ok ys dr2 → ys.length ≤ xs.length
  | [], dr, ys, dr2, h => by cases h; exact Nat.le_refl _
  | x :: xs, dr, ys, dr2, h => by
    have h' : ((b x dr).bind fun o dr => (lcL b xs dr).bind fun r dr => .ok (match o with | some y => y :: r | none => r) dr) = .ok ys dr2 := h
    cases q : b x dr with
    | bad => rw [q] at h'; cases h'
    | exc _ _ => rw [q] at h'; cases h'
    | ok o dr1 =>
      rw [q, Res.bind_ok] at h'
      cases q2 : lcL b xs dr1 with
      | bad => rw [q2] at h'; cases h'
      | exc _ _ => rw [q2] at h'; cases h'
      | ok r dr3 =>
        rw [q2, Res.bind_ok] at h'
        have := lcL_len xs dr1 r dr3 q2
        cases o <;> (cases h'; simp only [List.length_cons]; omega)
theorem lcL_cons {b : D → List Int → Res (Option D)} {x : D} {xs : List D} {dr dr2 : List Int} {ys : List D} (h : lcL b (x :: xs) dr = .ok ys dr2) : ∃ o dr1 r, b x dr = .ok o dr1 ∧ lcL b xs dr1 = .ok r dr2 ∧ ys = match o with
    | some y => y :: r
    | none => r := by
  have h' : ((b x dr).bind fun o dr => (lcL b xs dr).bind fun r dr => .ok (match o with | some y => y :: r | none => r) dr) = .ok ys dr2 := h
  cases q : b x dr with
  | bad => rw [q] at h'; cases h'
  | exc _ _ => rw [q] at h'; cases h'
  | ok o dr1 =>
    rw [q, Res.bind_ok] at h'
    cases q2 : lcL b xs dr1 with
    | bad => rw [q2] at h'; cases h'
    | exc _ _ => rw [q2] at h'; cases h'
    | ok r dr3 =>
      rw [q2, Res.bind_ok] at h'
      cases h'
      exact ⟨o, dr1, r, rfl, q2, rfl⟩
theorem noX_ok {α : Type} {r : Res α} {P : α → List Int → Prop} {E : Ex → List Int → Prop} (h : (noX r).post P E) : ∃ a dr, r = .ok a dr ∧ P a dr := by
  cases r with
  | ok a dr => exact ⟨a, dr, rfl, h⟩
  | exc _ _ => exact h.elim
  | bad => exact h.elim
theorem bind_ok {α β : Type} {r : Res α} {f : α → List Int → Res β} {b : β} {dr : List Int} (h : r.bind f = .ok b dr) : ∃ a dr1, r = .ok a dr1 ∧ f a dr1 = .ok b dr := by
  cases r with
  | ok a dr1 => exact ⟨a, dr1, rfl, h⟩
  | exc _ _ => cases h
  | bad => cases h
theorem ofO_ok {α : Type} {o : Option α} {dr dr1 : List Int} {a : α} (h : ofO o dr = .ok a dr1) : o = some a ∧ dr1 = dr := by
  cases o with
  | none => cases h
  | some x => cases h; exact ⟨rfl, rfl⟩
/-- one item of a comprehension -/
def lcB (p : Pat) (vs : List Nat) (et : Env → List Int → Res Bool) (ee : Env → List Int → Res D) (env : Env) : D → List Int → Res (Option D) := fun d dr => (ofO (asgP p d (wipeE env vs)) dr).bind fun env dr =>
  (et env dr).bind fun k dr => match k with
    | true => (ee env dr).bind fun y dr => .ok (some y) dr
    | false => .ok none dr
/-- the state of a comprehension behind some items -/
structure LcSt (g : Gd) (F1 H1 : Hp) (D0 : Addr) (b : D → List Int → Res (Option D)) (xs ys : List D) (dr2 : List Int) (i : Nat) (H : Hp) : Prop where
  ex : ∃ F dr acc vs rest, Post g F1 H1 F H dr ∧ H D0 = some (.lst vs) ∧ F D0 = none ∧ Reps g F acc vs ∧ lcL b (xs.drop i) dr = .ok rest dr2 ∧ ys = acc ++ rest ∧ acc.length ≤ i
theorem sub_cond {g : Gd} {F H F1 H1 : Hp} {dr : List Int} (a : Post g F H F1 H1 dr) : Cond g true F H F1 H1 := ⟨a.f, a.s, fun _ b o e n => a.old b o e n⟩
theorem lc_imp {p : Pat} {ei : Env → List Int → Res (List D)} {et : Env → List Int → Res Bool} {ee : Env → List Int → Res D} {σ : L2.St} {H : Hp} {Q : VK}
    (h : tMF (gd X ad) N (fun env dr => (ei env dr).bind fun xs dr => noX ((lcL (lcB p (slots p) et ee env) xs dr).bind fun ys dr => .ok (.lst ys) dr)) σ H Q) :
    tLc (tI (gd X ad) N true ei) (gP (gd X ad) N.blk p) (tT (gd X ad) N.blk et) (tM (gd X ad) N.blk false ee) (slots p) σ H Q := by
  obtain ⟨env, F, dr, st, k⟩ := h
  refine ⟨env, F, dr, st, (post_bind k).imp (fun xs dr1 h1 J H1 F1 a it hl D0 hD => ?_) fun _ _ z => z⟩
  obtain ⟨d, dr2, e1, k1⟩ := noX_ok h1
  obtain ⟨ys, dr2b, e2, e3⟩ := bind_ok e1
  cases e3
  have hne : some D0 ≠ ad := a.pne hD
  have hF1 : F1 D0 = none := a.s.free hD
  have hHD : H D0 = none := by
    cases q : H D0 with
    | none => rfl
    | some o => rw [a.old D0 o q hne] at hD; cases hD
  refine ⟨fun i m H' => m = xs.length - i ∧ i ≤ xs.length ∧ LcSt (gd X ad) F1 H1 D0 (lcB p (slots p) et ee env) xs ys dr2 i H',
    ⟨xs.length, by simp, Nat.zero_le _, ⟨F1, dr1, [], [], ys, a.self.allocH hD, upd_same, hF1, rfl, by rw [List.drop_zero]; exact e2, rfl, Nat.le_refl _⟩⟩, ?_⟩
  rintro i m H' ⟨rfl, hi', ⟨F2, dr', acc, vs, rest, po, hv, hF2, r, el, ey, hacc⟩⟩
  by_cases hlt : i < xs.length
  · right
    refine ⟨it.go i F2 H' hlt (sub_cond po), fun H'' => LcSt (gd X ad) F1 H1 D0 (lcB p (slots p) et ee env) xs ys dr2 (i + 1) H'', fun H'' w => ⟨xs.length - (i + 1), by omega, rfl, hlt, w⟩, fun x H2 y => ?_⟩
    obtain ⟨d, ed, cases2⟩ := it.yld i F2 H' x H2 hlt (sub_cond po) y
    obtain ⟨F3, po3, rx, hv3, hF3⟩ : ∃ F3, Post (gd X ad) F2 H' F3 H2 dr' ∧ Rep (gd X ad) F3 d x ∧ H2 D0 = some (.lst vs) ∧ F3 D0 = none := by
      rcases cases2 with ⟨rfl, rx⟩ | ⟨T, o, hT, rfl, rx⟩
      · exact ⟨F2, po.self, rx, hv, hF2⟩
      · have hTD : D0 ≠ T := ne_of_none hv hT
        exact ⟨upd F2 T o, po.self.alloc hT, rx, by rw [upd_ne hTD]; exact hv, by rw [upd_ne hTD]; exact hF2⟩
    rw [List.drop_eq_getElem_cons hlt] at el
    have exd : xs[i] = d := by
      rw [List.getElem?_eq_getElem hlt] at ed
      exact Option.some.inj ed
    rw [exd] at el
    obtain ⟨o, dr3, rest', eb, el', er⟩ := lcL_cons el
    obtain ⟨env', dr4, ea, eb2⟩ := bind_ok eb
    obtain ⟨ea2, rfl⟩ := ofO_ok ea
    obtain ⟨kb, dr5, et1, eb3⟩ := bind_ok eb2
    have stw := ((st.step (a.trans (po.trans po3))).wipe (slots p))
    refine ⟨wipeE env (slots p), F3, dr4, d, stw, rx, env', ea2, fun σ2 st2 l2 o2 => ?_⟩
    refine ⟨by rw [wipe_same l2 o2, wipe_wipe], env', F3, dr4, st2, ?_⟩
    rw [et1]
    show ∀ H4 F4, _ → _
    intro H4 F4 po4
    have hv4 : H4 D0 = some (.lst vs) := po4.old _ _ hv3 hne
    have hF4 : F4 D0 = none := by
      cases q : F4 D0 with
      | none => rfl
      | some u =>
        rcases po4.new D0 (by rw [q]; simp) with z | z
        · exact absurd hF3 z
        · rw [hv3] at z; cases z
    cases kb with
    | false =>
      cases eb3
      rw [if_neg Bool.false_ne_true]
      exact ⟨F4, dr3, acc, vs, rest', (po.trans po3).trans po4, hv4, hF4, Reps.mono (po3.f.trans po4.f) _ _ r, el', by rw [ey, er], by omega⟩
    | true =>
      obtain ⟨y, dr6, ee1, eb4⟩ := bind_ok eb3
      cases eb4
      rw [if_pos rfl]
      refine ⟨env', F4, dr5, st2.step po4, ?_⟩
      rw [ee1]
      show ∀ v H' F', _ → _ → _
      intro v H5 F5 po5 r5
      have hv5 : H5 D0 = some (.lst vs) := po5.old _ _ hv4 hne
      have hF5 : F5 D0 = none := by
        cases q : F5 D0 with
        | none => rfl
        | some u =>
          rcases po5.new D0 (by rw [q]; simp) with z | z
          · exact absurd hF4 z
          · rw [hv4] at z; cases z
      have r6 := Reps.mono (po3.f.trans (po4.f.trans po5.f)) _ _ r
      have hlen := r6.len
      refine ⟨vs, hv5, by omega, F5, dr3, acc ++ [y], vs ++ [v], rest', ?_, upd_same, hF5, r6.snoc r5.rep, el', by rw [ey, er]; simp, by rw [List.length_append]; simp; omega⟩
      exact ((po.trans po3).trans (po4.trans po5)).mut hD hF5 hne
  · have e : i = xs.length := by omega
    subst e
    rw [List.drop_length] at el
    cases (show Res.ok [] dr' = .ok rest dr2 from el)
    rw [List.append_nil] at ey
    subst ey
    have hlen : ys.length ≤ xs.length := lcL_len _ _ _ _ e2
    exact .inl ⟨it.stop F2 H' (sub_cond po), k1 D0 H' F2 (a.trans po) hHD hF2 ⟨by omega, vs, hv, r⟩⟩
theorem m_lc {tg it elt : Expr} {ifs : List Expr} {scope : Scope} {own : List (Str × Nat)} {p : Pat} {ei : Env → List Int → Res (List D)} {et : Env → List Int → Res Bool} {ee : Env → List Int → Res D} (hc : X.calm = true) (hN : X.N.Nodup) (ok : BlkOk X.N X.env.scope scope own) (hown : own.map (·.2) = slots p)
    (hi : PI X tg it (tI (gd X ad) N true ei)) (hg : ∀ (s : Shared) (H : Hp) (C : Addr) (cl : List (Str × Addr)) (fp : List Addr), PG (X.blk s H scope (compEnvC scope cl C X.env) fp) tg (gP (gd X ad) N.blk p))
    (ht : ∀ (s : Shared) (H : Hp) (C : Addr) (cl : List (Str × Addr)) (fp : List Addr), PTs (X.blk s H scope (compEnvC scope cl C X.env) fp) ifs (tT (gd X ad) N.blk et))
    (he : ∀ (s : Shared) (H : Hp) (C : Addr) (cl : List (Str × Addr)) (fp : List Addr), PE (X.blk s H scope (compEnvC scope cl C X.env) fp) elt (tM (gd X ad) N.blk false ee)) (hs : ∀ x, foldedSetIterable it X.env x = pure x) :
    PE X (.ListComp elt [⟨tg, it, ifs, 0⟩] scope pos) (tMF (gd X ad) N (fun env dr => (ei env dr).bind fun xs dr => noX ((lcL (lcB p (slots p) et ee env) xs dr).bind fun ys dr => .ok (.lst ys) dr))) := PEw' (pe_lc hc hN hi ok hg ht he hs) fun σ H Q h => by
  rw [hown]
  exact lc_imp h
end
end Cr
/-! Statements upon trees. -/
namespace Cr
open PySem PySem.Spec PyProof.Rows L2

def FlP (g : Gd) (N : En) (D : Ends) (F : Hp) : Fl → List Int → Prop
  | .nx env, dr => ∀ σ' H' F', StR g N.F0 N.H0 σ' env F' H' dr → Sub F F' → D.nx σ' H'
  | .bk env, dr => ∀ σ' H' F', StR g N.F0 N.H0 σ' env F' H' dr → Sub F F' → D.bk σ' H'
  | .ct env, dr => ∀ σ' H' F', StR g N.F0 N.H0 σ' env F' H' dr → Sub F F' → D.ct σ' H'
  | .rt d, dr => ∀ v H' F', Post g N.F0 N.H0 F' H' dr → Rep g F' d v → D.rt v H'
def EXs (g : Gd) (N : En) : Ex → List Int → Prop := fun e dr => ∀ cls dd σ' H' F', Post g N.F0 N.H0 F' H' dr → ExR g F' H' e cls dd → N.W cls dd σ' H'
def tS (g : Gd) (N : En) (ev : Env → List Int → Res Fl) : TS := fun D σ H => ∃ env F dr, StR g N.F0 N.H0 σ env F H dr ∧ (ev env dr).post (FlP g N D F) (EXs g N)
theorem FlP.up {g : Gd} {N : En} {D : Ends} {F F1 : Hp} (s : Sub F F1) (f : Fl) (dr : List Int) (h : FlP g N D F f dr) : FlP g N D F1 f dr := by
  cases f with
  | nx env => exact fun σ' H' F' st t => h σ' H' F' st (s.trans t)
  | bk env => exact fun σ' H' F' st t => h σ' H' F' st (s.trans t)
  | ct env => exact fun σ' H' F' st t => h σ' H' F' st (s.trans t)
  | rt d => exact h
theorem EXs.ex {g : Gd} {N : En} {F H : Hp} {σ : L2.St} {env : Env} {dr : List Int} (st : StR g N.F0 N.H0 σ env F H dr) (e : Ex) (dr' : List Int) (h : EXs g N e dr') : EX g N.W F H σ e dr' := fun cls dd H' F' a x => h cls dd σ H' F' (st.po.trans a) x

section
variable {X : Cx} {ad : Option Addr} {N : En} {pk : Bool} {pos : Pos} {e l r : Expr} {rest : List Stmt} {σ : L2.St} {H F : Hp} {env : Env} {dr : List Int} {D0 : Ends}
/-- an expression, then what follows -/
theorem sE {ea : Env → List Int → Res D} {f : D → List Int → Res Fl} {R : VK} (st : StR (gd X ad) N.F0 N.H0 σ env F H dr) (h : ((ea env dr).bind f).post (FlP (gd X ad) N D0 F) (EXs (gd X ad) N))
    (k : ∀ x dr1 v H1 F1, StR (gd X ad) N.F0 N.H0 σ env F1 H1 dr1 → Sub F F1 → RepQ (gd X ad) pk F1 H1 x v → (f x dr1).post (FlP (gd X ad) N D0 F1) (EXs (gd X ad) N) → R v H1) : tM (gd X ad) N pk ea σ H R :=
  ⟨env, F, dr, st, (post_bind h).imp (fun x dr1 h1 v H1 F1 a r1 => k x dr1 v H1 F1 (st.step a) a.f r1 (h1.imp (fun f dr z => z.up a.f f dr) fun _ _ z => z)) fun e dr' z => EXs.ex st e dr' z⟩
theorem sF {ea : Env → List Int → Res D} {f : D → List Int → Res Fl} {R : VK} (st : StR (gd X ad) N.F0 N.H0 σ env F H dr) (h : ((ea env dr).bind f).post (FlP (gd X ad) N D0 F) (EXs (gd X ad) N))
    (k : ∀ x dr1 p H1 F1, StR (gd X ad) N.F0 N.H0 σ env F1 H1 dr1 → Sub F F1 → H p = none → F1 p = none → OwnR (gd X ad) F1 H1 p x → (f x dr1).post (FlP (gd X ad) N D0 F1) (EXs (gd X ad) N) → R (.ref p) H1) : tMF (gd X ad) N ea σ H R :=
  ⟨env, F, dr, st, (post_bind h).imp (fun x dr1 h1 p H1 F1 a hp hf r1 => k x dr1 p H1 F1 (st.step a) a.f hp hf r1 (h1.imp (fun f dr z => z.up a.f f dr) fun _ _ z => z)) fun e dr' z => EXs.ex st e dr' z⟩
theorem sT {ea : Env → List Int → Res Bool} {f : Bool → List Int → Res Fl} {R : Bool → Hp → Prop} (st : StR (gd X ad) N.F0 N.H0 σ env F H dr) (h : ((ea env dr).bind f).post (FlP (gd X ad) N D0 F) (EXs (gd X ad) N))
    (k : ∀ x dr1 H1 F1, StR (gd X ad) N.F0 N.H0 σ env F1 H1 dr1 → Sub F F1 → (f x dr1).post (FlP (gd X ad) N D0 F1) (EXs (gd X ad) N) → R x H1) : tT (gd X ad) N ea σ H R :=
  ⟨env, F, dr, st, (post_bind h).imp (fun x dr1 h1 H1 F1 a => k x dr1 H1 F1 (st.step a) a.f (h1.imp (fun f dr z => z.up a.f f dr) fun _ _ z => z)) fun e dr' z => EXs.ex st e dr' z⟩
theorem sA {ea : Env → List Int → Res (List D)} {f : List D → List Int → Res Fl} {R : List V → Hp → Prop} (st : StR (gd X ad) N.F0 N.H0 σ env F H dr) (h : ((ea env dr).bind f).post (FlP (gd X ad) N D0 F) (EXs (gd X ad) N))
    (k : ∀ x dr1 v H1 F1, StR (gd X ad) N.F0 N.H0 σ env F1 H1 dr1 → Sub F F1 → Reps (gd X ad) F1 x v → (f x dr1).post (FlP (gd X ad) N D0 F1) (EXs (gd X ad) N) → R v H1) : tA (gd X ad) N ea σ H R :=
  ⟨env, F, dr, st, (post_bind h).imp (fun x dr1 h1 v H1 F1 a r1 => k x dr1 v H1 F1 (st.step a) a.f r1 (h1.imp (fun f dr z => z.up a.f f dr) fun _ _ z => z)) fun e dr' z => EXs.ex st e dr' z⟩

theorem s_done : PSs X [] (tS (gd X ad) N (fun env dr => .ok (.nx env) dr)) := PSsw' pss_nil fun D σ H ⟨env, F, dr, st, h⟩ => h σ H F st (Same.refl _)
theorem s_ret {ea : Env → List Int → Res D} (he : PE X e (tM (gd X ad) N false ea)) : PSs X (.Return (some e) pos :: rest) (tS (gd X ad) N (fun env dr => (ea env dr).bind fun d dr => .ok (.rt d) dr)) :=
  PSsw' (pss_cons (ps_ret he) pss_never) fun D σ H ⟨env, F, dr, st, h⟩ => sE st h fun x dr1 v H1 F1 st1 _ r1 k => k v H1 F1 st1.po r1.rep
theorem s_ret0 : PSs X (.Return none pos :: rest) (tS (gd X ad) N (fun _ dr => .ok (.rt .non) dr)) :=
  PSsw' (pss_cons ps_retN pss_never) fun D σ H ⟨env, F, dr, st, h⟩ => h .non H F st.po rfl
theorem s_brk : PSs X (.Break pos :: rest) (tS (gd X ad) N (fun env dr => .ok (.bk env) dr)) :=
  PSsw' (pss_cons ps_break pss_never) fun D σ H ⟨env, F, dr, st, h⟩ => h σ H F st (Same.refl _)
theorem s_cnt : PSs X (.Continue pos :: rest) (tS (gd X ad) N (fun env dr => .ok (.ct env) dr)) :=
  PSsw' (pss_cons ps_continue pss_never) fun D σ H ⟨env, F, dr, st, h⟩ => h σ H F st (Same.refl _)
theorem s_ex {ea : Env → List Int → Res D} {ek : Env → List Int → Res Fl} (he : PE X e (tM (gd X ad) N false ea)) (hs : swapsWith e none pos.line X.env = pure false) (hk : PSs X rest (tS (gd X ad) N ek)) :
    PSs X (.Expr e pos :: rest) (tS (gd X ad) N (fun env dr => (ea env dr).bind fun _ dr => ek env dr)) :=
  PSsw' (pss_cons (ps_expr he hs) hk) fun D σ H ⟨env, F, dr, st, h⟩ => sE st h fun x dr1 v H1 F1 st1 _ r1 k => ⟨env, F1, dr1, st1, k⟩
theorem s_pass {ek : Env → List Int → Res Fl} (hk : PSs X rest (tS (gd X ad) N ek)) : PSs X (.Pass pos :: rest) (tS (gd X ad) N ek) :=
  PSsw' (pss_cons ps_pass hk) fun D σ H h => h
/-- a target takes a value -/
theorem s_asg {tg : Expr} {p : Pat} {ea : Env → List Int → Res D} {ek : Env → List Int → Res Fl} (he : PE X e (tM (gd X ad) N false ea)) (hg : PG X tg (gP (gd X ad) N p)) (hs : swapsWithSole [tg] e pos.line X.env = pure false)
    (hw : swappedStores [tg] e X.env = pure none) (h1 : (assignEach [tg] X.env).map (·.2) = [assign tg X.env]) (hk : PSs X rest (tS (gd X ad) N ek)) :
    PSs X (.Assign [tg] e pos :: rest) (tS (gd X ad) N (fun env dr => (ea env dr).bind fun d dr => (ofO (asgP p d env) dr).bind fun env dr => ek env dr)) :=
  PSsw' (pss_cons (ps_asg he hg hs hw h1) hk) fun D σ H ⟨env, F, dr, st, h⟩ => sE st h fun x dr1 v H1 F1 st1 _ r1 k => by
    obtain ⟨env', e1, k2⟩ := post_ofO (post_bind k)
    exact ⟨env, F1, dr1, x, st1, r1.rep, env', e1, fun σ' st2 _ _ => ⟨env', F1, dr1, st2, k2⟩⟩
theorem own_ne {p : Addr} {d : D} {i : Nat} (st : StR (gd X ad) N.F0 N.H0 σ env F H dr) (h : get env i = .own d) : ∃ p, σ[i]? = some (some (.ref p)) ∧ F p = none ∧ N.H0 p = none ∧ p ≠ ad ∧ OwnR (gd X ad) F H p d := by
  have sl := st.slot i
  rw [h] at sl
  exact sl
/-- a slot takes a new object as its own: p was free ahead -/
theorem set_own {i : Nat} {p : Addr} {x : D} {H1 F1 : Hp} {dr1 : List Int} (st : StR (gd X ad) N.F0 N.H0 σ env F H dr) (st1 : StR (gd X ad) N.F0 N.H0 σ env F1 H1 dr1) (hp : H p = none) (hf : F1 p = none) (r : OwnR (gd X ad) F1 H1 p x) (hi : i < env.length) :
    StR (gd X ad) N.F0 N.H0 (σ.set i (some (.ref p))) (env.set i (.own x)) F1 H1 dr1 := by
  refine st1.setO hi hf ?_ (st.po.pne hp) r fun j d' h2 h3 => ?_
  · cases q : N.H0 p with
    | none => rfl
    | some o =>
      rw [st.po.old p o q (st.po.pne hp)] at hp
      cases hp
  · obtain ⟨q, e, f, h0, n, rr⟩ := own_ne (p := p) st h2
    rw [h3] at e
    cases e
    obtain ⟨o, ho⟩ := rr.there
    rw [ho] at hp
    cases hp
theorem s_own {i : Nat} {x : Str} {p2 : Pos} {ea : Env → List Int → Res D} {ek : Env → List Int → Res Fl} (hN : X.N.Nodup) (hi : X.N[i]? = some x) (hx : Loc X.env.scope x) (hf : X.fn x = true ∨ X.env.scope.names.lookup x = some .local) (he : PE X e (tMF (gd X ad) N ea))
    (hs : swapsWith e (some (.Name x p2)) pos.line X.env = pure false) (hk : PSs X rest (tS (gd X ad) N ek)) :
    PSs X (.Assign [.Name x p2] e pos :: rest) (tS (gd X ad) N (fun env dr => (ea env dr).bind fun d dr => (ofO ((freshD d).bind fun d => setSl env i (.own d)) dr).bind fun env dr => ek env dr)) :=
  PSsw' (pss_cons (ps_set hN hi hx he hs hf) hk) fun D σ H ⟨env, F, dr, st, h⟩ => by
    refine sF (R := fun v H1 => tS (gd X ad) N ek D (σ.set i (some v)) H1) st h fun x dr1 p H1 F1 st1 _ hp hf r1 k => ?_
    obtain ⟨env', e1, k2⟩ := post_ofO (post_bind k)
    have e3 : freshD x = some x := by cases x <;> first | rfl | exact r1.elim
    rw [e3] at e1
    have e2 : (if i < env.length then some (env.set i (.own x)) else none) = some env' := e1
    split at e2
    · rename_i hl
      cases e2
      exact ⟨_, F1, dr1, set_own st st1 hp hf r1 hl, k2⟩
    · cases e2
/-- a comprehension's list into a plain name, exchanged: known to all, or its own -/
theorem s_setLcV {i : Nat} {y : Str} {py : Pos} {elt tg it : Expr} {ifs : List Expr} {scope : Scope} {own : List (Str × Nat)} {lpos : Pos} {p : Pat} {ei : Env → List Int → Res (List D)} {et : Env → List Int → Res Bool} {ee : Env → List Int → Res D} {ek : Env → List Int → Res Fl}
    (hc : X.calm = true) (hN : X.N.Nodup) (hy : X.N[i]? = some y) (hyl : X.env.scope.names.lookup y = some .local) (hsw : swapsWith (.ListComp elt [⟨tg, it, ifs, 0⟩] scope lpos) (some (.Name y py)) pos.line X.env = pure true)
    (ok : BlkOk X.N X.env.scope scope own) (hown : own.map (·.2) = slots p)
    (hi : PI X tg it (tI (gd X ad) N true ei)) (hg : ∀ (s : Shared) (H : Hp) (C : Addr) (cl : List (Str × Addr)) (fp : List Addr), PG (X.blk s H scope (compEnvC scope cl C X.env) fp) tg (gP (gd X ad) N.blk p))
    (ht : ∀ (s : Shared) (H : Hp) (C : Addr) (cl : List (Str × Addr)) (fp : List Addr), PTs (X.blk s H scope (compEnvC scope cl C X.env) fp) ifs (tT (gd X ad) N.blk et))
    (he : ∀ (s : Shared) (H : Hp) (C : Addr) (cl : List (Str × Addr)) (fp : List Addr), PE (X.blk s H scope (compEnvC scope cl C X.env) fp) elt (tM (gd X ad) N.blk false ee)) (hs : ∀ x, foldedSetIterable it X.env x = pure x) (hk : PSs X rest (tS (gd X ad) N ek)) (o : Bool) :
    PSs X (.Assign [.Name y py] (.ListComp elt [⟨tg, it, ifs, 0⟩] scope lpos) pos :: rest) (tS (gd X ad) N (fun env dr => ((ei env dr).bind fun xs dr => noX ((lcL (lcB p (slots p) et ee env) xs dr).bind fun ys dr => .ok (.lst ys) dr)).bind fun d dr =>
      (ofO (if o then (freshD d).bind fun d => setSl env i (.own d) else asgP (.nm i) d env) dr).bind fun env dr => ek env dr)) :=
  PSsw' (pss_cons (ps_setLc hc hN hy hyl hsw hi ok hg ht he hs) hk) fun D σ H ⟨env, F, dr, st, h⟩ => by
    show tLc (tI (gd X ad) N true ei) (gP (gd X ad) N.blk p) (tT (gd X ad) N.blk et) (tM (gd X ad) N.blk false ee) (own.map (·.2)) σ H (fun v H1 => tS (gd X ad) N ek D (σ.set i (some v)) H1)
    rw [hown]
    refine lc_imp (sF st h fun x dr1 p H1 F1 st1 _ hp hf r1 k => ?_)
    obtain ⟨env', e1, k2⟩ := post_ofO (post_bind k)
    have e3 : freshD x = some x := by cases x <;> first | rfl | exact r1.elim
    cases o with
    | true =>
      rw [if_pos rfl, e3] at e1
      have e2 : (if i < env.length then some (env.set i (.own x)) else none) = some env' := e1
      split at e2
      · rename_i hl
        cases e2
        exact ⟨_, F1, dr1, set_own st st1 hp hf r1 hl, k2⟩
      · cases e2
    | false =>
      have e2 : (if i < env.length then some (env.set i (.val x)) else none) = some env' := e1
      split at e2
      · rename_i hl
        cases e2
        obtain ⟨o, ho⟩ := r1.there
        have hh : N.H0 p = none := by
          cases q : N.H0 p with
          | none => rfl
          | some o =>
            rw [st.po.old p o q (st.po.pne hp)] at hp
            cases hp
        have po2 := st1.po.self.frz (p := p) (o := o)
        have a2 : Post (gd X ad) N.F0 N.H0 (upd F1 p o) H1 dr1 := st1.po.frz hh hf (st.po.pne hp) ho
        have st2 : StR (gd X ad) N.F0 N.H0 σ env (upd F1 p o) H1 dr1 := by
          refine ⟨a2, st1.len, fun j => ?_, st1.apart⟩
          have sl := st1.slot j
          cases q : get env j with
          | no => trivial
          | val d =>
            rw [q] at sl
            obtain ⟨v, e5, r5⟩ := sl
            exact ⟨v, e5, Rep.mono (sub_upd hf) _ _ r5⟩
          | own d =>
            obtain ⟨p2, e5, f5, h5, n5, r5⟩ := own_ne (p := p) st q
            rw [q] at sl
            obtain ⟨p3, e6, f6, h6, n6, r6⟩ := sl
            rw [e5] at e6
            cases e6
            have hne : p2 ≠ p := fun z => by
              subst z
              obtain ⟨o', ho'⟩ := r5.there
              rw [ho'] at hp
              cases hp
            exact ⟨p2, e5, by rw [upd_ne hne]; exact f6, h6, n6, r6.mono (sub_upd hf) fun _ z => z⟩
        exact ⟨_, _, dr1, st2.setV hl (r1.rep (sub_upd hf) fun o' e => by rw [ho] at e; cases e; exact upd_same), k2.imp (fun f dr z => z.up (sub_upd hf) f dr) fun _ _ z => z⟩
      · cases e2
theorem s_if {c : Expr} {a b : List Stmt} {et : Env → List Int → Res Bool} {ea eb ek : Env → List Int → Res Fl} (hc : PT X c (tT (gd X ad) N et)) (ha : PSs X a (tS (gd X ad) N ea)) (hb : PSs X b (tS (gd X ad) N eb)) (hk : PSs X rest (tS (gd X ad) N ek)) :
    PSs X (.If c a b pos :: rest) (tS (gd X ad) N (fun env dr => (et env dr).bind fun t dr => (match t with
    | true => ea env dr
    | false => eb env dr).bind fun f dr => match f with
      | .nx env => ek env dr
      | f => .ok f dr)) :=
  PSsw' (pss_cons (ps_if hc ha hb) hk) fun D σ H ⟨env, F, dr, st, h⟩ => by
    refine sT st h fun t dr1 H1 F1 st1 _ k => ?_
    have fin : ∀ {eb' : Env → List Int → Res Fl}, ((eb' env dr1).bind fun f dr => match f with
      | .nx env => ek env dr
      | f => .ok f dr).post (FlP (gd X ad) N D F1) (EXs (gd X ad) N) → tS (gd X ad) N eb' { D with nx := tS (gd X ad) N ek D } σ H1 := fun {eb'} z =>
      ⟨env, F1, dr1, st1, (post_bind z).imp (fun f dr2 q => by
        cases f with
        | nx env2 => exact fun σ' H' F' st2 s2 => ⟨env2, F', dr2, st2, q.imp (fun f dr z => z.up s2 f dr) fun _ _ z => z⟩
        | rt d => exact q
        | bk env2 => exact q
        | ct env2 => exact q) fun _ _ z => z⟩
    cases t with
    | true =>
      rw [if_pos rfl]
      exact fin k
    | false =>
      rw [if_neg Bool.false_ne_true]
      exact fin k
/-- a loop's turns, then what follows -/
theorem s_for {tg it : Expr} {body : List Stmt} {p : Pat} {ei : Env → List Int → Res (List D)} {eb ek : Env → List Int → Res Fl} (hp : PassesOwn (model X.prog X.w) X.A X.env X.xe) (hc : X.calm = true) (hi : PI X tg it (tI (gd X ad) N false ei)) (hg : PG X tg (gP (gd X ad) N p))
    (hb : PSs X body (tS (gd X ad) N eb)) (hs : ∀ x, foldedSetIterable it X.env x = pure x) (hk : PSs X rest (tS (gd X ad) N ek)) :
    PSs X (.For tg it body [] pos :: rest) (tS (gd X ad) N (fun env dr => (ei env dr).bind fun xs dr => (forL (fun d env dr => (ofO (asgP p d env) dr).bind fun env dr => eb env dr) xs env dr).bind fun f dr => match f with
      | .nx env => ek env dr
      | f => .ok f dr)) :=
  PSsw' (pss_cons (ps_for hp hc hi hg hb hs) hk) fun D σ H ⟨env, F, dr, st, h⟩ => by
    refine ⟨env, F, dr, st, (post_bind h).imp (fun xs dr1 h1 J H1 F1 a itd hl => ?_) fun e dr' z => EXs.ex st e dr' z⟩
    have st1 := st.step a
    have h1 := h1.imp (fun f dr z => z.up a.f f dr) fun _ _ z => z
    refine ⟨fun i m σ' H' => m = xs.length - i ∧ i ≤ xs.length ∧ ∃ env' F' dr', StR (gd X ad) N.F0 N.H0 σ' env' F' H' dr' ∧ Sub F1 F' ∧
      ((forL (fun d env dr => (ofO (asgP p d env) dr).bind fun env dr => eb env dr) (xs.drop i) env' dr').bind fun f dr => match f with
        | .nx env => ek env dr
        | f => .ok f dr).post (FlP (gd X ad) N D F') (EXs (gd X ad) N), ⟨xs.length, by simp, Nat.zero_le _, env, F1, dr1, st1, Same.refl _, by rw [List.drop_zero]; exact h1⟩, ?_⟩
    rintro i m σ' H' ⟨rfl, hi', env', F', dr', st', s', h'⟩
    have hcond : Cond (gd X ad) false F1 H1 F' H' := ⟨s', st'.po.s, fun z => nomatch z⟩
    by_cases hlt : i < xs.length
    · right
      refine ⟨itd.go i F' H' hlt hcond, fun σ2 H2 => ∃ env2 F2 dr2, StR (gd X ad) N.F0 N.H0 σ2 env2 F2 H2 dr2 ∧ Sub F1 F2 ∧
        ((forL (fun d env dr => (ofO (asgP p d env) dr).bind fun env dr => eb env dr) (xs.drop (i + 1)) env2 dr2).bind fun f dr => match f with
          | .nx env => ek env dr
          | f => .ok f dr).post (FlP (gd X ad) N D F2) (EXs (gd X ad) N), fun σ2 H2 w => ⟨xs.length - (i + 1), by omega, rfl, hlt, w⟩, fun x H2 y => ?_⟩
      obtain ⟨d, ed, c2⟩ := itd.yld i F' H' x H2 hlt hcond y
      obtain ⟨F3, po3, rx⟩ : ∃ F3, Post (gd X ad) F' H' F3 H2 dr' ∧ Rep (gd X ad) F3 d x := by
        rcases c2 with ⟨rfl, rx⟩ | ⟨T, o, hT, rfl, rx⟩
        · exact ⟨F', st'.po.self, rx⟩
        · exact ⟨upd F' T o, st'.po.self.alloc hT, rx⟩
      have st3 := st'.step po3
      rw [List.drop_eq_getElem_cons hlt] at h'
      have exd : xs[i] = d := by
        rw [List.getElem?_eq_getElem hlt] at ed
        exact Option.some.inj ed
      rw [exd] at h'
      have h2 := post_bind h'
      have h3 := post_bind (show (((ofO (asgP p d env') dr').bind fun env dr => eb env dr).bind fun f dr => match f with
        | .nx env => forL (fun d env dr => (ofO (asgP p d env) dr).bind fun env dr => eb env dr) (xs.drop (i + 1)) env dr
        | .ct env => forL (fun d env dr => (ofO (asgP p d env) dr).bind fun env dr => eb env dr) (xs.drop (i + 1)) env dr
        | .bk env => .ok (.nx env) dr
        | .rt d => .ok (.rt d) dr).post _ _ from h2)
      obtain ⟨env4, ea, h4⟩ := post_ofO (post_bind h3)
      refine ⟨env', F3, dr', d, st3, rx, env4, ea, fun σ4 st4 _ _ => ⟨env4, F3, dr', st4, h4.imp (fun f dr5 q => ?_) fun _ _ z => z⟩⟩
      cases f with
      | nx env5 =>
        intro σ5 H5 F5 st5 s5
        refine ⟨env5, F5, dr5, st5, s'.trans (po3.f.trans s5), ?_⟩
        have q' : (forL (fun d env dr => (ofO (asgP p d env) dr).bind fun env dr => eb env dr) (xs.drop (i + 1)) env5 dr5).post _ _ := q
        cases e9 : forL (fun d env dr => (ofO (asgP p d env) dr).bind fun env dr => eb env dr) (xs.drop (i + 1)) env5 dr5 with
        | bad => rw [e9] at q'; exact q'.elim
        | exc e dd => rw [e9] at q'; exact q'
        | ok f dd =>
          rw [e9] at q'
          exact (show Res.post _ (FlP (gd X ad) N D F') (EXs (gd X ad) N) from q').imp (fun f dr z => z.up (po3.f.trans s5) f dr) fun _ _ z => z
      | ct env5 =>
        intro σ5 H5 F5 st5 s5
        refine ⟨env5, F5, dr5, st5, s'.trans (po3.f.trans s5), ?_⟩
        have q' : (forL (fun d env dr => (ofO (asgP p d env) dr).bind fun env dr => eb env dr) (xs.drop (i + 1)) env5 dr5).post _ _ := q
        cases e9 : forL (fun d env dr => (ofO (asgP p d env) dr).bind fun env dr => eb env dr) (xs.drop (i + 1)) env5 dr5 with
        | bad => rw [e9] at q'; exact q'.elim
        | exc e dd => rw [e9] at q'; exact q'
        | ok f dd =>
          rw [e9] at q'
          exact (show Res.post _ (FlP (gd X ad) N D F') (EXs (gd X ad) N) from q').imp (fun f dr z => z.up (po3.f.trans s5) f dr) fun _ _ z => z
      | bk env5 =>
        intro σ5 H5 F5 st5 s5
        exact ⟨env5, F5, dr5, st5, (show Res.post (ek env5 dr5) (FlP (gd X ad) N D F') (EXs (gd X ad) N) from q).imp (fun f dr z => z.up (po3.f.trans s5) f dr) fun _ _ z => z⟩
      | rt d5 => exact (show FlP (gd X ad) N D F' (.rt d5) dr5 from q)
    · have e : i = xs.length := by omega
      subst e
      rw [List.drop_length] at h'
      exact .inl ⟨itd.stop F' H' hcond, env', F', dr', st', h'⟩
end
end Cr
/-! A text of the core language held against the program's text. -/
namespace Cr
open PySem PySem.Spec PyProof.Rows L2

def vName : Expr → Option (Str × Pos)
  | .Name a b => some (a, b)
  | _ => none
theorem vName_inv {x : Expr} {a : Str} {b : Pos} (h : vName x = some (a, b)) : x = .Name a b := by
  cases x <;> first | (cases h; rfl) | cases h
def vConstant : Expr → Option (Const × Nat × Pos)
  | .Constant a b c => some (a, b, c)
  | _ => none
theorem vConstant_inv {x : Expr} {a : Const} {b : Nat} {c : Pos} (h : vConstant x = some (a, b, c)) : x = .Constant a b c := by
  cases x <;> first | (cases h; rfl) | cases h
def vBinOp : Expr → Option (Expr × Operator × Expr × Pos)
  | .BinOp a b c d => some (a, b, c, d)
  | _ => none
theorem vBinOp_inv {x : Expr} {a : Expr} {b : Operator} {c : Expr} {d : Pos} (h : vBinOp x = some (a, b, c, d)) : x = .BinOp a b c d := by
  cases x <;> first | (cases h; rfl) | cases h
def vUnaryOp : Expr → Option (UnaryOp × Expr × Pos)
  | .UnaryOp a b c => some (a, b, c)
  | _ => none
theorem vUnaryOp_inv {x : Expr} {a : UnaryOp} {b : Expr} {c : Pos} (h : vUnaryOp x = some (a, b, c)) : x = .UnaryOp a b c := by
  cases x <;> first | (cases h; rfl) | cases h
def vIfExp : Expr → Option (Expr × Expr × Expr × Pos)
  | .IfExp a b c d => some (a, b, c, d)
  | _ => none
theorem vIfExp_inv {x : Expr} {a : Expr} {b : Expr} {c : Expr} {d : Pos} (h : vIfExp x = some (a, b, c, d)) : x = .IfExp a b c d := by
  cases x <;> first | (cases h; rfl) | cases h
def vCompare : Expr → Option (Expr × List CmpOp × List Expr × Pos)
  | .Compare a b c d => some (a, b, c, d)
  | _ => none
theorem vCompare_inv {x : Expr} {a : Expr} {b : List CmpOp} {c : List Expr} {d : Pos} (h : vCompare x = some (a, b, c, d)) : x = .Compare a b c d := by
  cases x <;> first | (cases h; rfl) | cases h
def vCall : Expr → Option (Expr × List Expr × List Keyword × Pos)
  | .Call a b c d => some (a, b, c, d)
  | _ => none
theorem vCall_inv {x : Expr} {a : Expr} {b : List Expr} {c : List Keyword} {d : Pos} (h : vCall x = some (a, b, c, d)) : x = .Call a b c d := by
  cases x <;> first | (cases h; rfl) | cases h
def vAttribute : Expr → Option (Expr × Str × Pos)
  | .Attribute a b c => some (a, b, c)
  | _ => none
theorem vAttribute_inv {x : Expr} {a : Expr} {b : Str} {c : Pos} (h : vAttribute x = some (a, b, c)) : x = .Attribute a b c := by
  cases x <;> first | (cases h; rfl) | cases h
def vSubscript : Expr → Option (Expr × Expr × Pos)
  | .Subscript a b c => some (a, b, c)
  | _ => none
theorem vSubscript_inv {x : Expr} {a : Expr} {b : Expr} {c : Pos} (h : vSubscript x = some (a, b, c)) : x = .Subscript a b c := by
  cases x <;> first | (cases h; rfl) | cases h
def vSlice : Expr → Option (Option Expr × Option Expr × Option Expr × Pos)
  | .Slice a b c d => some (a, b, c, d)
  | _ => none
theorem vSlice_inv {x : Expr} {a : Option Expr} {b : Option Expr} {c : Option Expr} {d : Pos} (h : vSlice x = some (a, b, c, d)) : x = .Slice a b c d := by
  cases x <;> first | (cases h; rfl) | cases h
def vList : Expr → Option (List Expr × Pos)
  | .List a b => some (a, b)
  | _ => none
theorem vList_inv {x : Expr} {a : List Expr} {b : Pos} (h : vList x = some (a, b)) : x = .List a b := by
  cases x <;> first | (cases h; rfl) | cases h
def vTuple : Expr → Option (List Expr × Nat × Pos)
  | .Tuple a b c => some (a, b, c)
  | _ => none
theorem vTuple_inv {x : Expr} {a : List Expr} {b : Nat} {c : Pos} (h : vTuple x = some (a, b, c)) : x = .Tuple a b c := by
  cases x <;> first | (cases h; rfl) | cases h
def vBoolOp : Expr → Option (BoolOp × List Expr × Pos)
  | .BoolOp a b c => some (a, b, c)
  | _ => none
theorem vBoolOp_inv {x : Expr} {a : BoolOp} {b : List Expr} {c : Pos} (h : vBoolOp x = some (a, b, c)) : x = .BoolOp a b c := by
  cases x <;> first | (cases h; rfl) | cases h
def vListComp : Expr → Option (Expr × List Comprehension × Scope × Pos)
  | .ListComp a b c d => some (a, b, c, d)
  | _ => none
theorem vListComp_inv {x : Expr} {a : Expr} {b : List Comprehension} {c : Scope} {d : Pos} (h : vListComp x = some (a, b, c, d)) : x = .ListComp a b c d := by
  cases x <;> first | (cases h; rfl) | cases h
def vDict : Expr → Option (List (Option Expr) × List Expr × Pos)
  | .Dict a b c => some (a, b, c)
  | _ => none
theorem vDict_inv {x : Expr} {a : List (Option Expr)} {b : List Expr} {c : Pos} (h : vDict x = some (a, b, c)) : x = .Dict a b c := by
  cases x <;> first | (cases h; rfl) | cases h
def wReturn : Stmt → Option (Option Expr × Pos)
  | .Return a b => some (a, b)
  | _ => none
theorem wReturn_inv {x : Stmt} {a : Option Expr} {b : Pos} (h : wReturn x = some (a, b)) : x = .Return a b := by
  cases x <;> first | (cases h; rfl) | cases h
def wExpr : Stmt → Option (Expr × Pos)
  | .Expr a b => some (a, b)
  | _ => none
theorem wExpr_inv {x : Stmt} {a : Expr} {b : Pos} (h : wExpr x = some (a, b)) : x = .Expr a b := by
  cases x <;> first | (cases h; rfl) | cases h
def wAssign : Stmt → Option (List Expr × Expr × Pos)
  | .Assign a b c => some (a, b, c)
  | _ => none
theorem wAssign_inv {x : Stmt} {a : List Expr} {b : Expr} {c : Pos} (h : wAssign x = some (a, b, c)) : x = .Assign a b c := by
  cases x <;> first | (cases h; rfl) | cases h
def wIf : Stmt → Option (Expr × List Stmt × List Stmt × Pos)
  | .If a b c d => some (a, b, c, d)
  | _ => none
theorem wIf_inv {x : Stmt} {a : Expr} {b : List Stmt} {c : List Stmt} {d : Pos} (h : wIf x = some (a, b, c, d)) : x = .If a b c d := by
  cases x <;> first | (cases h; rfl) | cases h
def wFor : Stmt → Option (Expr × Expr × List Stmt × List Stmt × Pos)
  | .For a b c d e => some (a, b, c, d, e)
  | _ => none
theorem wFor_inv {x : Stmt} {a : Expr} {b : Expr} {c : List Stmt} {d : List Stmt} {e : Pos} (h : wFor x = some (a, b, c, d, e)) : x = .For a b c d e := by
  cases x <;> first | (cases h; rfl) | cases h
def wWhile : Stmt → Option (Expr × List Stmt × List Stmt × Pos)
  | .While a b c d => some (a, b, c, d)
  | _ => none
theorem wWhile_inv {x : Stmt} {a : Expr} {b : List Stmt} {c : List Stmt} {d : Pos} (h : wWhile x = some (a, b, c, d)) : x = .While a b c d := by
  cases x <;> first | (cases h; rfl) | cases h
def wRaise : Stmt → Option (Option Expr × Option Expr × Pos)
  | .Raise a b c => some (a, b, c)
  | _ => none
theorem wRaise_inv {x : Stmt} {a : Option Expr} {b : Option Expr} {c : Pos} (h : wRaise x = some (a, b, c)) : x = .Raise a b c := by
  cases x <;> first | (cases h; rfl) | cases h
def wTry : Stmt → Option (List Stmt × List ExceptHandler × List Stmt × List Stmt × Pos)
  | .Try a b c d e => some (a, b, c, d, e)
  | _ => none
theorem wTry_inv {x : Stmt} {a : List Stmt} {b : List ExceptHandler} {c : List Stmt} {d : List Stmt} {e : Pos} (h : wTry x = some (a, b, c, d, e)) : x = .Try a b c d e := by
  cases x <;> first | (cases h; rfl) | cases h
def wAugAssign : Stmt → Option (Expr × Operator × Expr × Pos)
  | .AugAssign a b c d => some (a, b, c, d)
  | _ => none
theorem wAugAssign_inv {x : Stmt} {a : Expr} {b : Operator} {c : Expr} {d : Pos} (h : wAugAssign x = some (a, b, c, d)) : x = .AugAssign a b c d := by
  cases x <;> first | (cases h; rfl) | cases h
/-- what is known of where a text stands -/
structure Ct where
  N : List Str
  sc : Scope
  raw : Option Scope
  fns : List (Str × Nat)
  cons : List Str
  bl : List Str
  exc : List Str
  tcl : List Str
  flg : List Str

def visB (sc : Scope) (x : Str) : Bool := match sc.names.lookup x with
  | some .local => true
  | some .cell => true
  | some .free => true
  | _ => false
def locB (sc : Scope) (x : Str) : Bool := match sc.names.lookup x with
  | some .local => true
  | some .cell => true
  | _ => false
def fnB (C : Ct) (x : Str) : Bool := match C.raw with
  | none => true
  | some s => decide (s.names.lookup x = some .cell) || decide (C.sc.names.lookup x = some .local)
def gloB (C : Ct) (x : Str) : Bool := decide (C.sc.names.lookup x = some .globalImplicit) && !(x == ("__debug__" : Str)) && !(x == ("__classdict__" : Str))
def bltB (C : Ct) (x : Str) : Bool := gloB C x && C.bl.contains x
def isStar : Expr → Bool
  | .Starred .. => true
  | _ => false
def isSet : Expr → Bool
  | .Set .. => true
  | _ => false
def isSlice : Expr → Bool
  | .Slice .. => true
  | _ => false
def isComp : Expr → Bool
  | .ListComp .. => true
  | .SetComp .. => true
  | .DictComp .. => true
  | _ => false
def isRow : Expr → Bool
  | .Tuple .. => true
  | .List .. => true
  | _ => false
def isBare : Expr → Bool
  | .UnaryOp .Not _ _ => false
  | .BoolOp .. => false
  | .IfExp .. => false
  | .Compare .. => false
  | _ => true
def isSup : Expr → Bool
  | .Call (.Name _ _) [] [] _ => true
  | _ => false
def isVar (i : Nat) (C : Ct) (e : Expr) : Bool := match vName e with
  | some (x, _) => decide (C.N[i]? = some x) && visB C.sc x && !(x == ("__debug__" : Str)) && !(x == ("__classdict__" : Str))
  | none => false
def ownOf (C : Ct) (p : Pat) : List (Str × Nat) := (slots p).map fun i => (C.N.getD i "", i)
def blkB (C : Ct) (s : Scope) (own : List (Str × Nat)) : Bool := decide (s.kind = .function) && s.names.all (fun y => decide (s.names.lookup y.1 = some y.2)) && own.all (fun p => decide (C.N[p.2]? = some p.1)) &&
  s.names.all (fun y => !decide (y.2 = .free) || decide (C.sc.names.lookup y.1 = some .cell) || decide (C.sc.names.lookup y.1 = some .free)) &&
  s.names.all (fun y => !(decide (y.2 = .local) || decide (y.2 = .cell)) || decide (y.1 ∈ own.map (·.1)) || !decide (y.1 ∈ C.N))
def Ct.blk (C : Ct) (s : Scope) : Ct := { C with sc := relS s C.sc, raw := some s }
def isNil : CE → Bool
  | .nil => true
  | _ => false
def lenC : CE → Option Nat
  | .nil => some 0
  | .cons _ es => (lenC es).map (· + 1)
  | _ => none
mutual
def ckP : Pat → Ct → Expr → Bool
  | .nm i, C, e => match vName e with
    | some (x, _) => decide (C.N[i]? = some x) && locB C.sc x && fnB C x
    | none => false
  | .nil, _, _ => false
  | .cons _ _, _, _ => false
  | .tp ps, C, e => match vTuple e with
    | some (es, _, _) => patRow ps && decide (es.length = patLen ps) && es.all (fun e => !isStar e) && ckPs ps C es
    | none => false
def ckPs : Pat → Ct → List Expr → Bool
  | .nil, _, es => es.isEmpty
  | .cons p ps, C, es => match es with
    | e :: es => !isStar e && ckP p C e && ckPs ps C es
    | [] => false
  | _, _, _ => false
end
mutual
def ckE : CE → Ct → Expr → Bool
  | .var i, C, e => isVar i C e
  | .non, C, e => match vConstant e with
    | some (.none, _, _) => true
    | _ => false
  | .bl b, C, e => match vConstant e with
    | some (.bool c, _, _) => decide (b = c)
    | _ => false
  | .int b, C, e => match vConstant e with
    | some (.int c, _, _) => decide (b = c)
    | _ => false
  | .str b, C, e => match vConstant e with
    | some (.str c, _, _) => decide (b = c)
    | _ => false
  | .glo x, C, e => match vName e with
    | some (y, _) => decide (x = y) && gloB C x && C.cons.contains x
    | none => false
  | .bin op a b, C, e => match vBinOp e with
    | some (l, o, r, _) => decide (o = pyOp op) && ckE a C l && ckE b C r
    | none => false
  | .neg a, C, e => match vUnaryOp e with
    | some (.USub, l, _) => ckE a C l
    | _ => false
  | .not a, C, e => match vUnaryOp e with
    | some (.Not, l, _) => ckE a C l
    | _ => false
  | .cmp op a b, C, e => match vCompare e with
    | some (l, [o], [r], _) => decide (o = pyCm op) && !isSet r && ckE a C l && ckE b C r
    | _ => false
  | .cmp2 o1 o2 a b c, C, e => match vCompare e with
    | some (l, [o, o'], [r, s], _) => decide (o = pyCm o1) && decide (o' = pyCm o2) && !isSet s && ckE a C l && ckE b C r && ckE c C s
    | _ => false
  | .isN a, C, e => match vCompare e with
    | some (l, [.Is], [r], _) => match vConstant r with
      | some (.none, _, _) => ckE a C l
      | _ => false
    | _ => false
  | .notN a, C, e => match vCompare e with
    | some (l, [.IsNot], [r], _) => match vConstant r with
      | some (.none, _, _) => ckE a C l
      | _ => false
    | _ => false
  | .and es, C, e => match vBoolOp e with
    | some (.And, ls, _) => ckAO es C ls
    | _ => false
  | .or es, C, e => match vBoolOp e with
    | some (.Or, ls, _) => ckAO es C ls
    | _ => false
  | .ife c a b, C, e => match vIfExp e with
    | some (t, l, r, _) => ckT c C t && ckE a C l && ckE b C r
    | none => false
  | .tup es, C, e => match vTuple e with
    | some (ls, _, _) => ckL es C ls
    | none => false
  | .lst es, C, e => match vList e with
    | some (ls, _) => ckL es C ls
    | none => false
  | .dicE _, C, e => match vDict e with
    | some ([], [], _) => true
    | _ => false
  | .call f es, C, e => match vCall e with
    | some (n, l :: ls, [], _) => (match vName n with
      | some (x, _) => decide (x = f) && gloB C x && decide (C.fns.lookup x = some (ls.length + 1)) && ckL es C (l :: ls) && decide (lenC es = some (ls.length + 1)) && (l :: ls).all (fun e => !isStar e)
      | none => false)
    | _ => false
  | .blt f es, C, e => match vCall e with
    | some (n, l :: ls, [], _) => (match vName n with
      | some (x, _) => decide (x = biNm f) && bltB C x && ckLp es C (l :: ls) && (l :: ls).all (fun e => !isStar e)
      | none => false)
    | _ => false
  | .isi a t, C, e => match vCall e with
    | some (n, [l, r], [], _) => (match vName n, vName r with
      | some (x, _), some (y, _) => decide (x = ("isinstance" : Str)) && decide (y = (tyNm t : Str)) && bltB C x && bltB C y && !isStar l && ckE a C l
      | _, _ => false)
    | _ => false
  | .meth m o es, C, e => match vCall e with
    | some (n, l :: ls, [], pos) => (match vAttribute n with
      | some (r, x, apos) => decide (x = miNm m) && miOk m && (apos.endLine == pos.line) && !isSup r && decide (ls.length < 25) && (l :: ls).all (fun e => !isStar e) && ckE o C r && ckL es C (l :: ls)
      | none => false)
    | _ => false
  | .ix a i, C, e => match vSubscript e with
    | some (l, r, _) => !isSlice r && ckE a C l && ckE i C r
    | none => false
  | .sl a lo hi, C, e => match vSubscript e with
    | some (l, r, _) => (match vSlice r with
      | some (x, y, none, _) => ckE a C l && ckO lo C x && ckO hi C y
      | _ => false)
    | none => false
  | .rev a, C, e => match vSubscript e with
    | some (l, r, _) => (match vSlice r with
      | some (none, none, some st, _) => (match vUnaryOp st with
        | some (.USub, o, _) => (match vConstant o with
          | some (.int 1, _, _) => ckE a C l
          | _ => false)
        | _ => false)
      | _ => false)
    | none => false
  | .lc p it t x, C, e => match vListComp e with
    | some (elt, [⟨tg, iter, ifs, 0⟩], s, _) => blkB C s (ownOf C p) && !isSet iter && ckI it C iter && ckP p (C.blk s) tg && ckTs t (C.blk s) ifs && ckE x (C.blk s) elt
    | _ => false
  | .dpop i, C, e => match vCall e with
    | some (n, [], [], pos) => (match vAttribute n with
      | some (r, x, apos) => decide (x = ("pop" : Str)) && (apos.endLine == pos.line) && isVar i C r
      | none => false)
    | _ => false
  | .dlen i, C, e => match vCall e with
    | some (n, [l], [], _) => (match vName n with
      | some (x, _) => decide (x = ("len" : Str)) && bltB C x && isVar i C l
      | none => false)
    | _ => false
  | .lrev a, C, e => match vCall e with
    | some (n, [c], [], _) => (match vName n, vCall c with
      | some (x, _), some (m, [l], [], _) => (match vName m with
        | some (y, _) => decide (x = ("list" : Str)) && decide (y = ("reversed" : Str)) && bltB C x && bltB C y && !isStar l && ckE a C l
        | none => false)
      | _, _ => false)
    | _ => false
  | .dead, _, _ => true
  | _, _, _ => false
def ckT : CE → Ct → Expr → Bool
  | .not a, C, e => match vUnaryOp e with
    | some (.Not, l, _) => ckT a C l
    | _ => false
  | .and es, C, e => match vBoolOp e with
    | some (.And, ls, _) => ckTB es C ls
    | _ => false
  | .or es, C, e => match vBoolOp e with
    | some (.Or, ls, _) => ckTB es C ls
    | _ => false
  | .cmp op a b, C, e => match vCompare e with
    | some (l, [o], [r], _) => decide (o = pyCm op) && !isSet r && ckE a C l && ckE b C r
    | _ => false
  | .cmp2 o1 o2 a b c, C, e => match vCompare e with
    | some (l, [o, o'], [r, s], _) => decide (o = pyCm o1) && decide (o' = pyCm o2) && !isSet s && ckE a C l && ckE b C r && ckE c C s
    | _ => false
  | .isN a, C, e => match vCompare e with
    | some (l, [.Is], [r], _) => match vConstant r with
      | some (.none, _, _) => ckE a C l
      | _ => false
    | _ => false
  | .notN a, C, e => match vCompare e with
    | some (l, [.IsNot], [r], _) => match vConstant r with
      | some (.none, _, _) => ckE a C l
      | _ => false
    | _ => false
  | .call f es, C, e => match vCall e with
    | some (n, l :: ls, [], _) => (match vName n with
      | some (x, _) => decide (x = f) && gloB C x && decide (C.fns.lookup x = some (ls.length + 1)) && ckL es C (l :: ls) && decide (lenC es = some (ls.length + 1)) && (l :: ls).all (fun e => !isStar e)
      | none => false)
    | _ => false
  | .blt f es, C, e => match vCall e with
    | some (n, l :: ls, [], _) => (match vName n with
      | some (x, _) => decide (x = biNm f) && bltB C x && ckLp es C (l :: ls) && (l :: ls).all (fun e => !isStar e)
      | none => false)
    | _ => false
  | .isi a t, C, e => match vCall e with
    | some (n, [l, r], [], _) => (match vName n, vName r with
      | some (x, _), some (y, _) => decide (x = ("isinstance" : Str)) && decide (y = (tyNm t : Str)) && bltB C x && bltB C y && !isStar l && ckE a C l
      | _, _ => false)
    | _ => false
  | .var i, C, e => isVar i C e
  | .ix a i, C, e => match vSubscript e with
    | some (l, r, _) => !isSlice r && ckE a C l && ckE i C r
    | none => false
  | .dead, _, _ => true
  | _, _, _ => false
def ckTs : CE → Ct → List Expr → Bool
  | .nil, _, es => es.isEmpty
  | .cons c cs, C, es => (match es with
    | [e] => isNil cs && ckT c C e
    | _ => false)
  | _, _, _ => false
/-- and, or of values -/
def ckAO : CE → Ct → List Expr → Bool
  | .cons c cs, C, es => (match es with
    | [e] => isNil cs && ckE c C e
    | e :: r :: rs => !isNil cs && ckE c C e && ckAO cs C (r :: rs)
    | _ => false)
  | _, _, _ => false
def ckTB : CE → Ct → List Expr → Bool
  | .cons c cs, C, es => (match es with
    | [e] => isNil cs && ckT c C e
    | e :: r :: rs => !isNil cs && ckT c C e && ckTB cs C (r :: rs)
    | _ => false)
  | _, _, _ => false
def ckL : CE → Ct → List Expr → Bool
  | .nil, _, es => es.isEmpty
  | .cons c cs, C, es => (match es with
    | e :: es => !isStar e && ckE c C e && ckL cs C es
    | [] => false)
  | _, _, _ => false
def ckLp : CE → Ct → List Expr → Bool
  | .nil, _, es => es.isEmpty
  | .cons c cs, C, es => (match es with
    | e :: es => !isStar e && ckE c C e && ckLp cs C es
    | [] => false)
  | _, _, _ => false
def ckO : CE → Ct → Option Expr → Bool
  | .nil, _, e => e.isNone
  | .cons c cs, C, e => (match e with
    | some e => isNil cs && ckE c C e
    | none => false)
  | _, _, _ => false
def ckI : CE → Ct → Expr → Bool
  | .rng es, C, e => match vCall e with
    | some (n, ls, [], _) => (match vName n with
      | some (x, _) => decide (x = ("range" : Str)) && bltB C x && ls.all (fun e => !isStar e) && (decide (ls.length = 1) || decide (ls.length = 2)) && decide (lenC es = some ls.length) && ckLp es C ls
      | none => false)
    | _ => false
  | .cons c cs, C, e => isNil cs && ckE c C e
  | .dead, _, _ => true
  | _, _, _ => false
end
end Cr
/-! A held text does what the core language says: expressions. -/
namespace Cr
open PySem PySem.Spec PyProof.Rows L2

structure XF (X : Cx) (ad : Option Addr) (N : En) (G : Cfg) (k : Nat) (C : Ct) : Prop where
  calm : X.calm = true
  nd : X.N.Nodup
  eN : X.N = C.N
  sc : X.env.scope = C.sc
  room : Room k X.A
  fns : ∀ x n, C.fns.lookup x = some n → ∃ fn, G.fns x = some fn ∧ FnG X k x n fn
  mgb : ∀ x, C.bl.contains x = true → X.mg x = none
  cons : ∀ x, C.cons.contains x = true → ∃ d v u, G.cons x = some d ∧ X.mg x = some u ∧ RelV v u ∧ ∀ F, Rep (gd X ad) F d v
  tk : ∀ σ, PassesAt (L2N.CX X.prog X.w) X σ (WE N.W σ)
  top : C.raw = none → ∀ x, X.fn x = true
  blk : ∀ s, C.raw = some s → X.fn = fun x => s.names.lookup x == some .cell
section
variable {X : Cx} {ad : Option Addr} {N : En} {G : Cfg} {k : Nat} {C : Ct}
theorem XF.hu (xf : XF X ad N G k C) : X.A.units + 65 < cLine := by have := xf.room.un; omega
theorem XF.inBlk (xf : XF X ad N G k C) (s : Shared) (H : Hp) (scope : Scope) (A : Addr) (cl : List (Str × Addr)) (fp : List Addr) : XF (X.blk s H scope (compEnvC scope cl A X.env) fp) ad N.blk G k (C.blk scope) where
  calm := xf.calm
  nd := xf.nd
  eN := xf.eN
  sc := by show relS scope X.env.scope = relS scope C.sc; rw [xf.sc]
  room := xf.room
  fns := fun x n h => by
    obtain ⟨fn, e, g⟩ := xf.fns x n h
    exact ⟨fn, e, ⟨g.ex⟩⟩
  mgb := xf.mgb
  cons := xf.cons
  tk := fun σ pins H s e s' I h => by
    obtain ⟨_, _, _, _, _, _, _, _, _, _, _, _, z⟩ := h
    exact z.elim
  top := fun h => nomatch h
  blk := fun s h => by
    cases (show some scope = some s from h)
    rfl
theorem gl_of (xf : XF X ad N G k C) {x : Str} (h : gloB C x = true) : Gl X x ∧ (x == ("__debug__" : Str)) = false ∧ (x == ("__classdict__" : Str)) = false := by
  unfold gloB at h
  rw [Bool.and_eq_true, Bool.and_eq_true] at h
  refine ⟨?_, by simpa using h.1.2, by simpa using h.2⟩
  show X.env.scope.names.lookup x = _
  rw [xf.sc]
  exact of_decide_eq_true h.1.1
theorem blt_of (xf : XF X ad N G k C) {x : Str} (h : bltB C x = true) : Gl X x ∧ X.mg x = none := by
  unfold bltB at h
  rw [Bool.and_eq_true] at h
  exact ⟨(gl_of xf h.1).1, xf.mgb x h.2⟩
theorem vis_of {sc : Scope} {x : Str} (h : visB sc x = true) : Vis sc x := by
  unfold visB at h
  unfold Vis
  split at h <;> first | (cases h; done) | simp [*]
theorem loc_of {sc : Scope} {x : Str} (h : locB sc x = true) : L2.Loc sc x := by
  unfold locB at h
  unfold L2.Loc
  split at h <;> first | (cases h; done) | simp [*]
theorem pvar_of (xf : XF X ad N G k C) {i : Nat} {e : Expr} (h : isVar i C e = true) : ∃ x p, e = .Name x p ∧ PE X e (tVar i) := by
  unfold isVar at h
  cases q : vName e with
  | none => rw [q] at h; cases h
  | some t =>
    obtain ⟨x, p⟩ := t
    rw [q] at h
    have := vName_inv q
    subst this
    simp only [Bool.and_eq_true, decide_eq_true_eq, Bool.not_eq_true'] at h
    exact ⟨x, p, rfl, pe_var (by rw [xf.eN]; exact h.1.1.1) (by rw [xf.sc]; exact vis_of h.1.1.2) h.1.2 h.2⟩
theorem fn_ok (xf : XF X ad N G k C) {x : Str} (h : fnB C x = true) : X.fn x = true ∨ X.env.scope.names.lookup x = some .local := by
  unfold fnB at h
  split at h
  · rename_i q
    exact .inl (xf.top q x)
  · rename_i s q
    rw [Bool.or_eq_true] at h
    rcases h with h | h
    · left
      rw [xf.blk s q]
      simpa using h
    · right
      rw [xf.sc]
      exact of_decide_eq_true h
/-! ### side conditions by shape -/
theorem star_cons {env : PySem.Env} {e : Expr} {es : List Expr} (h : isStar e = false) : starEach (e :: es) env = (false, eval e env) :: starEach es env := by
  cases e <;> first | rfl | cases h
theorem star_any {env : PySem.Env} {pos : Pos} : ∀ {es : List Expr}, es.all (fun e => !isStar e) = true → (backTo pos (starEach es env)).any (·.1) = false
  | [], _ => rfl
  | e :: es, h => by
    rw [List.all_cons, Bool.and_eq_true] at h
    rw [star_cons (by simpa using h.1)]
    show (false || _) = false
    rw [Bool.false_or]
    exact star_any h.2
theorem star_all {env : PySem.Env} {pos : Pos} : ∀ {es : List Expr}, es.all (fun e => !isStar e) = true → (backTo pos (starEach es env)).all (fun x => !x.1) = true
  | [], _ => rfl
  | e :: es, h => by
    rw [List.all_cons, Bool.and_eq_true] at h
    rw [star_cons (by simpa using h.1)]
    show (true && _) = true
    rw [Bool.true_and]
    exact star_all h.2
theorem set_marks {op : CmpOp} {e : Expr} (h : isSet e = false) : behindInMarks op e = false := by
  cases e <;> first | rfl | cases h
theorem set_fold {env : PySem.Env} {e : Expr} (h : isSet e = false) (x : Value) : foldedSetIterable e env x = pure x := by
  cases e <;> first | rfl | cases h
theorem plainIx {e : Expr} (h : isSlice e = false) : PlainIx e := by
  cases e <;> first | (intro o i; rfl) | cases h
theorem noSup {env : PySem.Env} {e : Expr} {a : Str} {w : Sem Value} (h : isSup e = false) : attributeBase e a env w = w := by
  unfold attributeBase
  split
  · cases h
  · rfl
theorem bare {env : PySem.Env} {e : Expr} (h : isBare e = true) (whole : Sem Value) : isTrue e env whole = (do let v ← whole; standAt e.pos; holding [v] (truthy v)) := by
  cases e <;> first | rfl | (cases h; done) | skip
  rename_i op x p
  cases op <;> first | rfl | cases h
theorem blk_of (xf : XF X ad N G k C) {s : Scope} {own : List (Str × Nat)} (h : blkB C s own = true) : BlkOk X.N X.env.scope s own := by
  unfold blkB at h
  simp only [Bool.and_eq_true, decide_eq_true_eq, List.all_eq_true, Bool.or_eq_true, Bool.not_eq_true', decide_eq_false_iff_not, Bool.or_eq_false_iff] at h
  obtain ⟨⟨⟨⟨h1, h2⟩, h3⟩, h4⟩, h5⟩ := h
  refine ⟨h1, fun y hy => h2 y hy, fun p hp => by rw [xf.eN]; exact h3 p hp, fun y hy e => ?_, fun y hy e => ?_⟩
  · rw [xf.sc]
    rcases h4 y hy with (z | z) | z
    · exact absurd e z
    · exact .inl z
    · exact .inr z
  · rw [xf.eN]
    rcases h5 y hy with (z | z) | z
    · rcases e with e | e
      · exact absurd e z.1
      · exact absurd e z.2
    · exact .inl z
    · exact .inr z
theorem ownOf_snd (C : Ct) (p : Pat) : (ownOf C p).map (·.2) = slots p := by
  unfold ownOf
  rw [List.map_map]
  exact List.map_id _
theorem evL_len : ∀ {es : CE} {n : Nat} {env : Env} {dr : List Int} {ds : List D} {dr' : List Int}, lenC es = some n → evL G es env dr = .ok ds dr' → ds.length = n
  | .nil, n, env, dr, ds, dr', h, e => by
    cases (show some 0 = some n from h)
    cases (show Res.ok [] dr = .ok ds dr' from e)
    rfl
  | .cons c es, n, env, dr, ds, dr', h, e => by
    have h' : (lenC es).map (· + 1) = some n := h
    obtain ⟨d, dr1, e1, e2⟩ := bind_ok (show ((evE G c false env dr).bind fun d dr => (evL G es env dr).bind fun ds dr => .ok (d :: ds) dr) = .ok ds dr' from e)
    obtain ⟨ds2, dr2, e3, e4⟩ := bind_ok e2
    cases e4
    cases q : lenC es with
    | none => rw [q] at h'; cases h'
    | some m =>
      rw [q] at h'
      cases h'
      rw [List.length_cons, evL_len q e3]
  | .scons _ _, _, _, _, _, _, h, _ => nomatch h
  | .var _, _, _, _, _, _, h, _ => nomatch h
  | .non, _, _, _, _, _, h, _ => nomatch h
  | .bl _, _, _, _, _, _, h, _ => nomatch h
  | .int _, _, _, _, _, _, h, _ => nomatch h
  | .str _, _, _, _, _, _, h, _ => nomatch h
  | .glo _, _, _, _, _, _, h, _ => nomatch h
  | .fnv _, _, _, _, _, _, h, _ => nomatch h
  | .bin _ _ _, _, _, _, _, _, h, _ => nomatch h
  | .neg _, _, _, _, _, _, h, _ => nomatch h
  | .cmp _ _ _, _, _, _, _, _, h, _ => nomatch h
  | .cmp2 _ _ _ _ _, _, _, _, _, _, h, _ => nomatch h
  | .isN _, _, _, _, _, _, h, _ => nomatch h
  | .notN _, _, _, _, _, _, h, _ => nomatch h
  | .and _, _, _, _, _, _, h, _ => nomatch h
  | .or _, _, _, _, _, _, h, _ => nomatch h
  | .not _, _, _, _, _, _, h, _ => nomatch h
  | .ife _ _ _, _, _, _, _, _, h, _ => nomatch h
  | .tup _, _, _, _, _, _, h, _ => nomatch h
  | .lst _, _, _, _, _, _, h, _ => nomatch h
  | .dicE _, _, _, _, _, _, h, _ => nomatch h
  | .call _ _, _, _, _, _, _, h, _ => nomatch h
  | .callv _ _, _, _, _, _, _, h, _ => nomatch h
  | .blt _ _, _, _, _, _, _, h, _ => nomatch h
  | .isi _ _, _, _, _, _, _, h, _ => nomatch h
  | .meth _ _ _, _, _, _, _, _, h, _ => nomatch h
  | .ix _ _, _, _, _, _, _, h, _ => nomatch h
  | .sl _ _ _, _, _, _, _, _, h, _ => nomatch h
  | .rev _, _, _, _, _, _, h, _ => nomatch h
  | .rng _, _, _, _, _, _, h, _ => nomatch h
  | .enum _, _, _, _, _, _, h, _ => nomatch h
  | .zip _ _, _, _, _, _, _, h, _ => nomatch h
  | .items _, _, _, _, _, _, h, _ => nomatch h
  | .vals _, _, _, _, _, _, h, _ => nomatch h
  | .rvd _, _, _, _, _, _, h, _ => nomatch h
  | .lc _ _ _ _, _, _, _, _, _, h, _ => nomatch h
  | .lc2 _ _ _ _ _ _ _, _, _, _, _, _, h, _ => nomatch h
  | .dc _ _ _ _ _ _, _, _, _, _, _, h, _ => nomatch h
  | .dpop _, _, _, _, _, _, h, _ => nomatch h
  | .dlen _, _, _, _, _, _, h, _ => nomatch h
  | .fstr _, _, _, _, _, _, h, _ => nomatch h
  | .lrev _, _, _, _, _, _, h, _ => nomatch h
  | .dead, _, _, _, _, _, h, _ => nomatch h
theorem evLp_len : ∀ {es : CE} {n : Nat} {env : Env} {dr : List Int} {ds : List D} {dr' : List Int}, lenC es = some n → evLp G es env dr = .ok ds dr' → ds.length = n
  | .nil, n, env, dr, ds, dr', h, e => by
    cases (show some 0 = some n from h)
    cases (show Res.ok [] dr = .ok ds dr' from e)
    rfl
  | .cons c es, n, env, dr, ds, dr', h, e => by
    have h' : (lenC es).map (· + 1) = some n := h
    obtain ⟨d, dr1, e1, e2⟩ := bind_ok (show ((evE G c true env dr).bind fun d dr => (evLp G es env dr).bind fun ds dr => .ok (d :: ds) dr) = .ok ds dr' from e)
    obtain ⟨ds2, dr2, e3, e4⟩ := bind_ok e2
    cases e4
    cases q : lenC es with
    | none => rw [q] at h'; cases h'
    | some m =>
      rw [q] at h'
      cases h'
      rw [List.length_cons, evLp_len q e3]
  | .scons _ _, n, env, dr, ds, dr', h, e => nomatch h
  | .var _, _, _, _, _, _, h, _ => nomatch h
  | .non, _, _, _, _, _, h, _ => nomatch h
  | .bl _, _, _, _, _, _, h, _ => nomatch h
  | .int _, _, _, _, _, _, h, _ => nomatch h
  | .str _, _, _, _, _, _, h, _ => nomatch h
  | .glo _, _, _, _, _, _, h, _ => nomatch h
  | .fnv _, _, _, _, _, _, h, _ => nomatch h
  | .bin _ _ _, _, _, _, _, _, h, _ => nomatch h
  | .neg _, _, _, _, _, _, h, _ => nomatch h
  | .cmp _ _ _, _, _, _, _, _, h, _ => nomatch h
  | .cmp2 _ _ _ _ _, _, _, _, _, _, h, _ => nomatch h
  | .isN _, _, _, _, _, _, h, _ => nomatch h
  | .notN _, _, _, _, _, _, h, _ => nomatch h
  | .and _, _, _, _, _, _, h, _ => nomatch h
  | .or _, _, _, _, _, _, h, _ => nomatch h
  | .not _, _, _, _, _, _, h, _ => nomatch h
  | .ife _ _ _, _, _, _, _, _, h, _ => nomatch h
  | .tup _, _, _, _, _, _, h, _ => nomatch h
  | .lst _, _, _, _, _, _, h, _ => nomatch h
  | .dicE _, _, _, _, _, _, h, _ => nomatch h
  | .call _ _, _, _, _, _, _, h, _ => nomatch h
  | .callv _ _, _, _, _, _, _, h, _ => nomatch h
  | .blt _ _, _, _, _, _, _, h, _ => nomatch h
  | .isi _ _, _, _, _, _, _, h, _ => nomatch h
  | .meth _ _ _, _, _, _, _, _, h, _ => nomatch h
  | .ix _ _, _, _, _, _, _, h, _ => nomatch h
  | .sl _ _ _, _, _, _, _, _, h, _ => nomatch h
  | .rev _, _, _, _, _, _, h, _ => nomatch h
  | .rng _, _, _, _, _, _, h, _ => nomatch h
  | .enum _, _, _, _, _, _, h, _ => nomatch h
  | .zip _ _, _, _, _, _, _, h, _ => nomatch h
  | .items _, _, _, _, _, _, h, _ => nomatch h
  | .vals _, _, _, _, _, _, h, _ => nomatch h
  | .rvd _, _, _, _, _, _, h, _ => nomatch h
  | .lc _ _ _ _, _, _, _, _, _, h, _ => nomatch h
  | .lc2 _ _ _ _ _ _ _, _, _, _, _, _, h, _ => nomatch h
  | .dc _ _ _ _ _ _, _, _, _, _, _, h, _ => nomatch h
  | .dpop _, _, _, _, _, _, h, _ => nomatch h
  | .dlen _, _, _, _, _, _, h, _ => nomatch h
  | .fstr _, _, _, _, _, _, h, _ => nomatch h
  | .lrev _, _, _, _, _, _, h, _ => nomatch h
  | .dead, _, _, _, _, _, h, _ => nomatch h
end
end Cr
/-! list(reversed(a list)) -/
namespace Cr
open PySem PySem.Spec PyProof.Rows RT
section
variable {pg : Program} {wd : World} {Ar : Around} {Er : Value → Shared → Prop} {s0 : Shared}
theorem ext_rev {Rr : Result → Shared → Prop} {it l T : Addr} {its : Array Value} (hh : Ar.handled = none) (hit : s0.heap.IsRevIter it l ((its.size : Int) - 1)) (hl : s0.heap.IsList l its) (hne : l ≠ it) (hn : its.size ≤ sizeLine) (hTi : T ≠ it) (hTl : T ≠ l)
    {c0 : Nat} (hT : s0.heap.get? T = some { cls := .type "list", data := .seq #[] c0 })
    (hR : ∀ h' tk acc c', (∀ b o, b ≠ T → b ≠ it → s0.heap.get? b = some o → h'.get? b = some o) → h'.get? T = some { cls := .type "list", dict := none, data := .seq acc c', slots := #[] } →
      ItemsOf (fun i v => its[its.size - 1 - i]? = some v) acc its.size → Rr (.ok (.ret .none)) { s0 with heap := h', toks := tk }) :
    wpAny (model pg wd) Ar.in1 (Builtin.List.listExtendWith (.ref T) (.ref it) .none)
      (fun fin z => match fin with | .done f => Rr (.ok f) z | .again c' => c'.quiet = true ∧ codeAny (model pg wd) Ar c' Rr z) (fun e z => Rr (.error e) z) s0 := by
  have Wk := (Walks.listRev (prog := pg) (w := wd) (A := Ar.in1) hh it l hne its).toS
  have hTf : T ∉ [it, l] := by
    intro hm
    rcases List.mem_cons.mp hm with e | hm
    · exact hTi e
    · exact hTl (List.mem_singleton.mp hm)
  have ty : s0.TypeIs (.ref it) "list_reverseiterator" := hit.typeIs
  have q1 : Builtin.List.listSameRef (.ref T) (.ref it) = false := by simp [Builtin.List.listSameRef, hTi]
  unfold Builtin.List.listExtendWith
  refine wpAny_bind (wpAny_typeOf ty ?_)
  rw [if_neg (by rw [q1]; decide)]
  refine wpAny_bind (wpAny_pyIter_revIter hit ?_)
  refine wpAny_bind (wpAny_holding ?_)
  unfold Builtin.List.listLengthHint
  refine wpAny_bind (wpAny_specialOf ty nolen_lri ?_)
  show wpAny _ Ar.in1 (specialOf (Value.ref it) (Str.ofString "__length_hint__") >>= _) _ _ _
  refine wpAny_bind (wpAny_specialOf ty hint_lri ?_)
  generalize hx : ("list_reverseiterator.__length_hint__" : String) = x0
  wp_delta
  rw [show splitId x0 = some ("list_reverseiterator", "__length_hint__") from by subst hx; decide +kernel]
  subst hx
  refine wpAny_bind (wpAny_isInstance (b := true) ty (by rw [isSubtype_type]; kernel_rfl) ?_)
  refine wpAny_pure ?_
  rw [if_neg (by decide)]
  have e9 : ((its.size : Nat) : Int) - 1 - ((0 : Nat) : Int) = (its.size : Int) - 1 := by omega
  refine wpAny_pure ⟨plainId_quiet F.plain_extend_loop _, codeAny_extend_loopS Wk hn T hTf .none its.size 0 s0 #[] c0 rfl (Nat.zero_le _) ⟨Nat.zero_le _, by rw [e9]; exact hit, hl⟩ hT (ItemsOf.nil _) fun z acc c' hm hz hacc => ?_⟩
  rw [Moved.eq_with hm]
  refine hR z.heap z.toks acc c' (fun b o hb hb2 e => hm.heap b o (fun hmem => ?_) e) hz hacc
  rcases List.mem_cons.mp hmem with e' | hmem
  · exact hb e'
  · exact hb2 (List.mem_singleton.mp hmem)
theorem call_lrev {Rq : Value → Shared → Prop} {it l : Addr} {its : Array Value} (hh : Ar.handled = none) (hit : s0.heap.IsRevIter it l ((its.size : Int) - 1)) (hl : s0.heap.IsList l its) (hne : l ≠ it) (hn : its.size ≤ sizeLine)
    (hR : ∀ h' tk acc c', (∀ b o, b ≠ it → s0.heap.get? b = some o → h'.get? b = some o) → h'.get? s0.heap.objs.size = some { cls := .type "list", dict := none, data := .seq acc c', slots := #[] } →
      ItemsOf (fun i v => its[its.size - 1 - i]? = some v) acc its.size → Rq (.ref s0.heap.objs.size) { s0 with heap := h', toks := tk }) : wpAny (model pg wd) Ar (call (.type "list") [.ref it]) Rq Er s0 := by
  obtain ⟨o1, ho1, _⟩ := id hit
  obtain ⟨o2, ho2, _⟩ := id hl
  have n1 : s0.heap.objs.size ≠ it := Nat.ne_of_gt (Heap.lt_size ho1)
  have n2 : s0.heap.objs.size ≠ l := Nat.ne_of_gt (Heap.lt_size ho2)
  refine callType_codes (Q₁ := fun ob z => ob = .ref s0.heap.objs.size ∧ z = { s0 with heap := s0.heap.push { cls := .type "list", data := .seq #[] } }) F.called_list (F.typeCall_list_1 _) F.entry_list_init (code_list_new _ ⟨rfl, rfl⟩) fun ob z hz => ?_
  obtain ⟨rfl, rfl⟩ := hz
  have g0 : (s0.heap.push { cls := .type "list", data := .seq #[] }).get? s0.heap.objs.size = some { cls := .type "list", data := .seq #[] } := Heap.get?_push_size _ rfl
  refine ⟨⟨_, g0, rfl⟩, F.args_list_init_2 _ _, ?_⟩
  show wpAny _ Ar.in1.in1 (Builtin.List.listItems (.ref s0.heap.objs.size) >>= fun old => Builtin.List.listUpdate (.ref s0.heap.objs.size) (fun _ => #[]) >>= fun _ => letGo old.toList.reverse >>= fun _ => Builtin.List.listExtendWith (.ref s0.heap.objs.size) (.ref it) .none) _ _ _
  refine wpAny_bind ?_
  unfold Builtin.List.listItems
  refine wpAny_bind (wpAny_seqItems g0 rfl (wpAny_pure ?_))
  show wpAny _ _ (updateSeq s0.heap.objs.size (fun _ => #[]) >>= fun _ => letGo (#[] : Array Value).toList.reverse >>= fun _ => Builtin.List.listExtendWith (.ref s0.heap.objs.size) (.ref it) .none) _ _ _
  refine wpAny_bind (wpAny_updateSeq g0 rfl ?_)
  have g2 := Heap.get?_update_self (Obj.mapSeq (fun _ => (#[] : Array Value))) g0 rfl
  have ot : ∀ b o, b ≠ s0.heap.objs.size → s0.heap.get? b = some o → ((s0.heap.push { cls := .type "list", data := .seq #[] }).update s0.heap.objs.size (Obj.mapSeq (fun _ => (#[] : Array Value)))).get? b = some o :=
    fun b o hb e => (Heap.get?_update_other _ _ (Ne.symm hb)).trans (Heap.get?_push_of_some _ e)
  refine wpAny_bind (wpAny_letGo ?_)
  obtain ⟨oo, h1, h2, nn, h3⟩ := id hl
  refine ext_rev (Ar := Ar.in1) hh (hit.at fun o e => ot it o (Ne.symm n1) e) ⟨oo, ot l oo (Ne.symm n2) h1, h2, nn, h3⟩ hne hn n1 n2 g2 fun h' tk acc c' hk hS hacc => ?_
  exact ⟨rfl, hR h' tk acc c' (fun b o hb e => hk b o (Nat.ne_of_lt (Heap.lt_size e)) hb (ot b o (Nat.ne_of_lt (Heap.lt_size e)) e)) hS hacc⟩
end
end Cr
namespace Cr
open PySem PySem.Spec PyProof.Rows L2
/-- list(reversed(x)), x a list: a new list -/
def tLrev (K : PySem.W.Frag) (te : TE) : TE := fun σ H Q => te σ H fun v H1 => ∃ (a : Addr) (xs : List V), v = .ref a ∧ SqL K H1 a xs ∧ ∀ q, H1 q = none → Q (.ref q) (upd H1 q (.lst xs.reverse))
section
variable {X : Cx} {ad : Option Addr} {N : En}
theorem pe_lrev {e : Expr} {te : TE} {p p2 pos pos2 : Pos} (hc : X.calm = true) (hg : Gl X "list") (hm : X.mg "list" = none) (hg2 : Gl X "reversed") (hm2 : X.mg "reversed" = none) (he : PE X e te)
    (hs : starEach [e] X.env = (false, eval e X.env) :: starEach [] X.env) : PE X (.Call (.Name "list" p) [.Call (.Name "reversed" p2) [e] [] pos2] [] pos) (tLrev X.K te) := by
  refine ⟨fun pins s σ H Q I h => ?_⟩
  refine Call_ (ld_blt I hg hm boot_list (PyProof.Rows.callWith_type1 (args_cons (Call_ (ld_blt I hg2 hm2 PyProof.Rows.boot_reversed (PyProof.Rows.callWith_type1 (args_cons (thn (he.run pins s σ H _ I h) fun u z ⟨v, H1, J, r1, q1⟩ => args_nil ?_) hs) hs rfl))) rfl) rfl rfl))
  obtain ⟨a, xs, ev, hq, q⟩ := q1
  subst ev
  obtain rfl : u = Value.ref a := r1
  obtain ⟨its, rv, pl, hz⟩ := J.list hq
  refine call_reversed_list pl.isList (args_nil ?_)
  have k0 : ∀ b o, z.heap.get? b = some o → (z.heap.push (revObj a ((its.toArray.size : Int) - 1))).get? b = some o := fun b o e => Heap.get?_push_of_some _ e
  have J2 : Inv X pins σ H1 { z with heap := z.heap.push (revObj a ((its.toArray.size : Int) - 1)) } := J.kept (t' := z.toks) k0
  have fp := J.fpOk (H' := H1) (b := z.heap.objs.size) (Nat.le_refl _) (J.hok.fresh (Nat.le_refl _))
  have hl := pl.isList
  obtain ⟨ol, hol, _⟩ := id hl
  have hn : its.toArray.size ≤ sizeLine := by rw [List.size_toArray, ← rv.length]; exact hz
  refine call_lrev (s0 := { z with heap := z.heap.push (revObj a ((its.toArray.size : Int) - 1)) }) (J2.ok.hd hc) ⟨_, Heap.get?_push_size _ rfl, rfl, rfl⟩ (hl.push _) (Nat.ne_of_lt (Heap.lt_size hol)) hn fun h' tk acc c' hk hS hi => ?_
  refine ⟨.ref _, upd H1 _ (.lst xs.reverse), J2.turnedNew (t' := tk) (ch := [z.heap.objs.size]) (T := (z.heap.push (revObj a ((its.toArray.size : Int) - 1))).objs.size) (fun b o hb e => hk b o (fun y => hb (by rw [y]; exact List.mem_singleton.mpr rfl)) e) (fun b hb => by rw [List.mem_singleton.mp hb]; exact fp) (Nat.le_refl _)
    (show ObjOk X.prog X.w _ _ _ (.lst xs.reverse) from ⟨by rw [List.length_reverse]; exact hz, acc.toList, c', RT.vals_rev rv hi, ?_⟩), rfl, q _ (J2.hok.fresh (Nat.le_refl _))⟩
  rw [Array.toArray_toList]
  exact hS
theorem m_lrev {l : Expr} {pk : Bool} {ea : Env → List Int → Res D} {p p2 pos pos2 : Pos} (hc : X.calm = true) (hg : Gl X "list") (hm : X.mg "list" = none) (hg2 : Gl X "reversed") (hm2 : X.mg "reversed" = none) (ha : PE X l (tM (gd X ad) N true ea)) (hs : isStar l = false) :
    PE X (.Call (.Name "list" p) [.Call (.Name "reversed" p2) [l] [] pos2] [] pos) (tM (gd X ad) N pk (fun env dr => (ea env dr).bind fun x dr => ofO (match x with
      | .lst ds => some (.lst ds.reverse)
      | _ => none) dr)) := PEw' (pe_lrev hc hg hm hg2 hm2 ha (star_cons hs)) fun σ H Q ⟨env, F, dr, st, k⟩ => by
  refine one st k fun x dr1 v H1 F1 st1 a r1 k1 => ?_
  obtain ⟨d, e1, k3⟩ := post_ofO k1
  cases x <;> try (cases e1; done)
  rename_i ds
  cases e1
  obtain ⟨q, vs, rfl, h1, t, hl⟩ := rq_lst r1 st1.po.s
  exact ⟨q, vs, rfl, .of h1, fun q2 hq => (kont_of k3 st1.po.self).fresh st1.po.s _ _ hq (own_lst t.rev (by rw [List.length_reverse]; exact hl))⟩
end
end Cr
namespace Cr
open PySem PySem.Spec PyProof.Rows L2

theorem dead_E {X : Cx} {ad : Option Addr} {N : En} {pk : Bool} {e : Expr} {ev : Env → List Int → Res D} (h : ∀ env dr, ev env dr = .bad) : PE X e (tM (gd X ad) N pk ev) := ⟨fun pins s σ H Q I ⟨env, F, dr, st, k⟩ => by
  rw [h] at k
  exact k.elim⟩
theorem dead_T {X : Cx} {ad : Option Addr} {N : En} {e : Expr} {ev : Env → List Int → Res Bool} (h : ∀ env dr, ev env dr = .bad) : PT X e (tT (gd X ad) N ev) := ⟨fun pins s σ H Q I ⟨env, F, dr, st, k⟩ => by
  rw [h] at k
  exact k.elim⟩
section
variable {X : Cx} {ad : Option Addr} {N : En} {G : Cfg} {k : Nat} {C : Ct} {pk : Bool}
/-- a call, held -/
theorem call_snd {f x : Str} {es : CE} {l : Expr} {ls : List Expr} {p pos : Pos} (xf : XF X ad N G k C) (h : (decide (x = f) && gloB C x && decide (C.fns.lookup x = some (ls.length + 1)) && decide (lenC es = some (ls.length + 1)) && (l :: ls).all (fun e => !isStar e)) = true)
    (ha : PA X (l :: ls) (tA (gd X ad) N (evL G es))) : PE X (.Call (.Name x p) (l :: ls) [] pos) (tM (gd X ad) N pk (evE G (.call f es) pk)) := by
  simp only [Bool.and_eq_true, decide_eq_true_eq] at h
  obtain ⟨⟨⟨⟨rfl, h1⟩, h2⟩, h3⟩, h4⟩ := h
  obtain ⟨fn, e1, g⟩ := xf.fns x _ h2
  obtain ⟨g1, g2, _⟩ := gl_of xf h1
  have h4' := h4
  rw [List.all_cons, Bool.and_eq_true] at h4'
  have key : PE X (.Call (.Name x p) (l :: ls) [] pos) (tM (gd X ad) N pk (fun env dr => (evL G es env dr).bind fun ds dr => fn ds dr)) :=
    m_call g xf.room g1 g2 xf.tk ha rfl (fun env dr ds dr' e => evL_len h3 e) (star_cons (by simpa using h4'.1)) (star_any h4'.2)
  have e2 : evE G (.call x es) pk = fun env dr => (evL G es env dr).bind fun ds dr => fn ds dr := by
    funext env dr
    show ((evL G es env dr).bind fun ds dr => match G.fns x with
      | some g => g ds dr
      | none => .bad) = _
    rw [e1]
  rw [e2]
  exact key
/-- a test that is a value -/
theorem tru_snd {e : Expr} {ea : Env → List Int → Res D} (hb : isBare e = true) (ha : PE X e (tM (gd X ad) N true ea)) : PT X e (tT (gd X ad) N (fun env dr => (ea env dr).bind fun x dr => ofO x.tru dr)) := n_tru (pa := true) ha fun w => bare hb w
theorem tru_bl {ea : Env → List Int → Res Bool} : (fun env dr => ((ea env dr).bind fun b dr => .ok (D.bl b) dr).bind fun x dr => ofO x.tru dr) = ea := by
  funext env dr
  cases ea env dr <;> rfl
end
theorem isNil_eq {c : CE} (h : isNil c = true) : c = .nil := by cases c <;> first | rfl | cases h
theorem evAnd_cons {G : Cfg} {c cs : CE} (h : isNil cs = false) : evAnd G (.cons c cs) = fun env dr => (evE G c true env dr).bind fun x dr => match x with
    | .bl true => evAnd G cs env dr
    | .bl false => .ok (.bl false) dr
    | _ => .bad := by
  cases cs <;> first | (cases h; done) | rfl
theorem evOr_cons {G : Cfg} {c cs : CE} (h : isNil cs = false) : evOr G (.cons c cs) = fun env dr => (evE G c true env dr).bind fun x dr => match x with
    | .bl true => .ok (.bl true) dr
    | .bl false => evOr G cs env dr
    | _ => .bad := by
  cases cs <;> first | (cases h; done) | rfl
theorem evTand_cons {G : Cfg} {c cs : CE} (h : isNil cs = false) : evTand G (.cons c cs) = fun env dr => (evT G c env dr).bind fun b dr => match b with
    | true => evTand G cs env dr
    | false => .ok false dr := by
  cases cs <;> first | (cases h; done) | rfl
theorem evTor_cons {G : Cfg} {c cs : CE} (h : isNil cs = false) : evTor G (.cons c cs) = fun env dr => (evT G c env dr).bind fun b dr => match b with
    | true => .ok true dr
    | false => evTor G cs env dr := by
  cases cs <;> first | (cases h; done) | rfl
section
variable {X : Cx} {ad : Option Addr} {N : En} {pk : Bool} {pos : Pos}
theorem dead_I {tg e : Expr} {ev : Env → List Int → Res (List D)} (h : ∀ env dr, ev env dr = .bad) : PI X tg e (tI (gd X ad) N pk ev) := ⟨fun pins s σ H Q I ⟨env, F, dr, st, k⟩ => by
  rw [h] at k
  exact k.elim⟩
theorem bool1 {op : BoolOp} {e : Expr} {ev : Env → List Int → Res D} (h : PE X e (tM (gd X ad) N pk ev)) : PE X (.BoolOp op [e] pos) (tM (gd X ad) N pk ev) := ⟨fun pins s σ H Q I q => BoolOp_one (h.run pins s σ H Q I q)⟩
theorem ts_nil : PTs X [] (tT (gd X ad) N (fun _ dr => .ok true dr)) := ⟨fun pins s σ H Q I ⟨env, F, dr, st, k⟩ => pts_nil.run pins s σ H Q I (k H F st.po.self)⟩
end
theorem asg_cons {env : PySem.Env} {e : Expr} {es : List Expr} (h : isStar e = false) : (assignEach (e :: es) env).map (·.2) = assign e env :: (assignEach es env).map (·.2) := by
  cases e <;> first | rfl | cases h
theorem asg_len {env : PySem.Env} : ∀ {es : List Expr}, (assignEach es env).length = es.length
  | [] => rfl
  | e :: es => by
    have := asg_len (env := env) (es := es)
    cases e <;> (show (assignEach es env).length + 1 = _; rw [this]; rfl)
theorem asg_star {env : PySem.Env} : ∀ {es : List Expr}, es.all (fun e => !isStar e) = true → (assignEach es env).findIdx? (·.1) = none
  | [], _ => rfl
  | e :: es, h => by
    rw [List.all_cons, Bool.and_eq_true] at h
    have h1 : isStar e = false := by simpa using h.1
    have ih := asg_star (env := env) h.2
    rw [List.findIdx?_eq_none_iff] at ih ⊢
    intro x hx
    have hx' : x = (false, assign e env) ∨ x ∈ assignEach es env := by
      cases e <;> first | (cases h1; done) | exact List.mem_cons.mp hx
    rcases hx' with z | z
    · rw [z]
    · exact ih x z
/-! ### patterns -/
mutual
theorem ckP_snd : ∀ (p : Pat) (C : Ct) (e : Expr), ckP p C e = true → ∀ {X : Cx} {ad : Option Addr} {N : En} {G : Cfg} {k : Nat} (xf : XF X ad N G k C), PG X e (gP (gd X ad) N p)
  | .nm i, C, e, h, X, ad, N, G, k, xf => by
    rw [ckP] at h
    split at h
    · rename_i x p q
      obtain rfl := vName_inv q
      simp only [Bool.and_eq_true, decide_eq_true_eq] at h
      exact g_nm xf.nd (by rw [xf.eN]; exact h.1.1) (by rw [xf.sc]; exact loc_of h.1.2) (fn_ok xf h.2)
    · cases h
  | .tp ps, C, e, h, X, ad, N, G, k, xf => by
    rw [ckP] at h
    split at h
    · rename_i es j p q
      obtain rfl := vTuple_inv q
      simp only [Bool.and_eq_true, decide_eq_true_eq] at h
      obtain ⟨⟨⟨h1, h2⟩, h3⟩, h4⟩ := h
      exact g_tp xf.calm (ckPs_snd ps C es h4 xf) h1 (by rw [asg_len, h2]) (asg_star h3)
    · cases h
  | .nil, _, _, h, _, _, _, _, _, _ => nomatch h
  | .cons _ _, _, _, h, _, _, _, _, _, _ => nomatch h
theorem ckPs_snd : ∀ (p : Pat) (C : Ct) (es : List Expr), ckPs p C es = true → ∀ {X : Cx} {ad : Option Addr} {N : En} {G : Cfg} {k : Nat} (xf : XF X ad N G k C), PGs X es (gPs (gd X ad) N p)
  | .nil, C, es, h, X, ad, N, G, k, xf => by
    rw [ckPs, List.isEmpty_iff] at h
    subst h
    exact gs_nil
  | .cons p ps, C, es, h, X, ad, N, G, k, xf => by
    cases es with
    | nil => cases h
    | cons e es =>
      have h : (!isStar e && ckP p C e && ckPs ps C es) = true := h
      simp only [Bool.and_eq_true, Bool.not_eq_true'] at h
      exact gs_cons (ckP_snd p C e h.1.2 xf) (ckPs_snd ps C es h.2 xf) (asg_cons h.1.1)
  | .nm _, _, _, h, _, _, _, _, _, _ => nomatch h
  | .tp _, _, _, h, _, _, _, _, _, _ => nomatch h
end
mutual
theorem ckE_snd : ∀ (c : CE) (C : Ct) (e : Expr), ckE c C e = true → ∀ {X : Cx} {ad : Option Addr} {N : En} {G : Cfg} {k : Nat} (xf : XF X ad N G k C) (pk : Bool), PE X e (tM (gd X ad) N pk (evE G c pk))
  | .var i, C, e, h, X, ad, N, G, k, xf, pk => by
    obtain ⟨x, p, rfl, hv⟩ := pvar_of xf h
    exact m_var hv
  | .non, C, e, h, X, ad, N, G, k, xf, pk => by
    rw [ckE] at h
    split at h
    · rename_i q
      obtain rfl := vConstant_inv q
      exact m_const (x := .non) (d := .non) pe_non (fun F => rfl) fun _ _ => rfl
    · cases h
  | .bl b, C, e, h, X, ad, N, G, k, xf, pk => by
    rw [ckE] at h
    split at h
    · rename_i q
      obtain rfl := vConstant_inv q
      cases of_decide_eq_true h
      exact m_const (x := .bl b) (d := .bl b) pe_bl (fun F => rfl) fun _ _ => rfl
    · cases h
  | .int b, C, e, h, X, ad, N, G, k, xf, pk => by
    rw [ckE] at h
    split at h
    · rename_i q
      obtain rfl := vConstant_inv q
      cases of_decide_eq_true h
      exact m_const (x := .int b) (d := .int b) pe_int (fun F => rfl) fun _ _ => rfl
    · cases h
  | .str b, C, e, h, X, ad, N, G, k, xf, pk => by
    rw [ckE] at h
    split at h
    · rename_i q
      obtain rfl := vConstant_inv q
      cases of_decide_eq_true h
      exact m_const (x := .str b) (d := .str b) pe_str (fun F => rfl) fun _ _ => rfl
    · cases h
  | .glo x, C, e, h, X, ad, N, G, k, xf, pk => by
    rw [ckE] at h
    split at h
    · rename_i y p q
      obtain rfl := vName_inv q
      simp only [Bool.and_eq_true, decide_eq_true_eq] at h
      obtain ⟨⟨rfl, h1⟩, h2⟩ := h
      obtain ⟨d, v, u, e1, e2, r, rr⟩ := xf.cons x h2
      obtain ⟨g1, g2, _⟩ := gl_of xf h1
      refine m_const (x := v) (d := d) (pe_glob g1 e2 r g2) rr fun env dr => ?_
      show ofO (G.cons x) dr = _
      rw [e1]
      rfl
    · cases h
  | .bin op a b, C, e, h, X, ad, N, G, k, xf, pk => by
    rw [ckE] at h
    split at h
    · rename_i l o r p q
      obtain rfl := vBinOp_inv q
      simp only [Bool.and_eq_true, decide_eq_true_eq] at h
      obtain ⟨⟨rfl, h1⟩, h2⟩ := h
      exact m_bin (ea := evE G a true) (eb := evE G b true) (ckE_snd a C l h1 xf true) (ckE_snd b C r h2 xf true)
    · cases h
  | .neg a, C, e, h, X, ad, N, G, k, xf, pk => by
    rw [ckE] at h
    split at h
    · rename_i l p q
      obtain rfl := vUnaryOp_inv q
      exact m_neg (ea := evE G a true) (ckE_snd a C l h xf true)
    · cases h
  | .not a, C, e, h, X, ad, N, G, k, xf, pk => by
    rw [ckE] at h
    split at h
    · rename_i l p q
      obtain rfl := vUnaryOp_inv q
      exact m_not (ea := evE G a true) (ckE_snd a C l h xf true)
    · cases h
  | .cmp op a b, C, e, h, X, ad, N, G, k, xf, pk => by
    rw [ckE] at h
    split at h
    · rename_i l o r p q
      obtain rfl := vCompare_inv q
      simp only [Bool.and_eq_true, decide_eq_true_eq, Bool.not_eq_true'] at h
      obtain ⟨⟨⟨rfl, h0⟩, h1⟩, h2⟩ := h
      exact m_cmp (ea := evE G a true) (eb := evE G b true) xf.hu (set_marks h0) (ckE_snd a C l h1 xf true) (ckE_snd b C r h2 xf true)
    · cases h
  | .cmp2 o1 o2 a b c, C, e, h, X, ad, N, G, k, xf, pk => by
    rw [ckE] at h
    split at h
    · rename_i l o o' r s p q
      obtain rfl := vCompare_inv q
      simp only [Bool.and_eq_true, decide_eq_true_eq, Bool.not_eq_true'] at h
      obtain ⟨⟨⟨⟨⟨rfl, rfl⟩, h0⟩, h1⟩, h2⟩, h3⟩ := h
      exact m_chain (ea := evE G a true) (eb := evE G b true) (ec := evE G c true) xf.hu (set_marks h0) (ckE_snd a C l h1 xf true) (ckE_snd b C r h2 xf true) (ckE_snd c C s h3 xf true)
    · cases h
  | .isN a, C, e, h, X, ad, N, G, k, xf, pk => by
    rw [ckE] at h
    split at h
    · rename_i l r p q
      obtain rfl := vCompare_inv q
      split at h
      · rename_i q2
        obtain rfl := vConstant_inv q2
        exact m_isN (ea := evE G a true) (ckE_snd a C l h xf true)
      · cases h
    · cases h
  | .notN a, C, e, h, X, ad, N, G, k, xf, pk => by
    rw [ckE] at h
    split at h
    · rename_i l r p q
      obtain rfl := vCompare_inv q
      split at h
      · rename_i q2
        obtain rfl := vConstant_inv q2
        exact m_notN (ea := evE G a true) (ckE_snd a C l h xf true)
      · cases h
    · cases h
  | .and es, C, e, h, X, ad, N, G, k, xf, pk => by
    rw [ckE] at h
    split at h
    · rename_i ls p q
      obtain rfl := vBoolOp_inv q
      exact ckAnd_snd es C ls h xf pk p
    · cases h
  | .or es, C, e, h, X, ad, N, G, k, xf, pk => by
    rw [ckE] at h
    split at h
    · rename_i ls p q
      obtain rfl := vBoolOp_inv q
      exact ckOr_snd es C ls h xf pk p
    · cases h
  | .ife c a b, C, e, h, X, ad, N, G, k, xf, pk => by
    rw [ckE] at h
    split at h
    · rename_i t l r p q
      obtain rfl := vIfExp_inv q
      simp only [Bool.and_eq_true] at h
      exact m_ife (et := evT G c) (ea := evE G a false) (eb := evE G b false) (ckT_snd c C t h.1.1 xf) (m_up (ckE_snd a C l h.1.2 xf false)) (m_up (ckE_snd b C r h.2 xf false))
    · cases h
  | .tup es, C, e, h, X, ad, N, G, k, xf, pk => by
    rw [ckE] at h
    split at h
    · rename_i ls j p q
      obtain rfl := vTuple_inv q
      exact m_tup (el := evL G es) (ckL_snd es C ls h xf)
    · cases h
  | .lst es, C, e, h, X, ad, N, G, k, xf, pk => by
    rw [ckE] at h
    split at h
    · rename_i ls p q
      obtain rfl := vList_inv q
      exact PEw' (m_lst (el := evL G es) (ckL_snd es C ls h xf)) fun σ H Q z => tMF.tM z
    · cases h
  | .dicE t, C, e, h, X, ad, N, G, k, xf, pk => by
    rw [ckE] at h
    split at h
    · rename_i p q
      obtain rfl := vDict_inv q
      exact PEw' (m_dicE t) fun σ H Q z => tMF.tM z
    · cases h
  | .call f es, C, e, h, X, ad, N, G, k, xf, pk => by
    rw [ckE] at h
    split at h
    · rename_i n l ls p q
      obtain rfl := vCall_inv q
      split at h
      · rename_i x p2 q2
        obtain rfl := vName_inv q2
        simp only [Bool.and_eq_true] at h
        obtain ⟨⟨⟨⟨⟨h1, h2⟩, h3⟩, h4⟩, h5⟩, h6⟩ := h
        exact call_snd xf (by simp only [Bool.and_eq_true]; exact ⟨⟨⟨⟨h1, h2⟩, h3⟩, h5⟩, h6⟩) (ckL_snd es C _ h4 xf)
      · cases h
    · cases h
  | .blt f es, C, e, h, X, ad, N, G, k, xf, pk => by
    rw [ckE] at h
    split at h
    · rename_i n l ls p q
      obtain rfl := vCall_inv q
      split at h
      · rename_i x p2 q2
        obtain rfl := vName_inv q2
        simp only [Bool.and_eq_true, decide_eq_true_eq] at h
        obtain ⟨⟨⟨rfl, h2⟩, h3⟩, h4⟩ := h
        obtain ⟨g1, g2⟩ := blt_of xf h2
        have h4' := h4
        rw [List.all_cons, Bool.and_eq_true] at h4'
        exact m_blt (el := evLp G es) xf.calm g1 g2 (ckLp_snd es C _ h3 xf) (star_cons (by simpa using h4'.1)) (star_any h4'.2)
      · cases h
    · cases h
  | .isi a t, C, e, h, X, ad, N, G, k, xf, pk => by
    rw [ckE] at h
    split at h
    · rename_i n l r p q
      obtain rfl := vCall_inv q
      split at h
      · rename_i x p2 y p3 q2 q3
        obtain rfl := vName_inv q2
        obtain rfl := vName_inv q3
        simp only [Bool.and_eq_true, decide_eq_true_eq, Bool.not_eq_true'] at h
        obtain ⟨⟨⟨⟨⟨rfl, rfl⟩, h2⟩, h3⟩, h4⟩, h5⟩ := h
        obtain ⟨g1, g2⟩ := blt_of xf h2
        obtain ⟨g3, g4⟩ := blt_of xf h3
        exact m_isi (ea := evE G a true) g1 g2 g3 g4 (ckE_snd a C l h5 xf true) (star_cons h4)
      · cases h
    · cases h
  | .meth m o es, C, e, h, X, ad, N, G, k, xf, pk => by
    rw [ckE] at h
    split at h
    · rename_i n l ls pos q
      obtain rfl := vCall_inv q
      split at h
      · rename_i r x apos q2
        obtain rfl := vAttribute_inv q2
        simp only [Bool.and_eq_true, decide_eq_true_eq, Bool.not_eq_true'] at h
        obtain ⟨⟨⟨⟨⟨⟨⟨rfl, h1⟩, h2⟩, h3⟩, h4⟩, h5⟩, h6⟩, h7⟩ := h
        have h5' := h5
        rw [List.all_cons, Bool.and_eq_true] at h5'
        refine m_meth (ea := evE G o true) (el := evL G es) h1 (by have := xf.hu; omega) (ckE_snd o C r h6 xf true) (ckL_snd es C _ h7 xf) (noSup h3) ?_ h2 (star_cons (by simpa using h5'.1)) (star_any h5'.2)
        rw [star_all h5]
        simp only [List.length_cons, List.length_nil, List.isEmpty_nil, if_pos, Bool.true_and, keywordEach, backToKw, List.map_nil, List.all_nil, decide_eq_true_eq]
        omega
      · cases h
    · cases h
  | .ix a i, C, e, h, X, ad, N, G, k, xf, pk => by
    rw [ckE] at h
    split at h
    · rename_i l r p q
      obtain rfl := vSubscript_inv q
      simp only [Bool.and_eq_true, Bool.not_eq_true'] at h
      exact m_ix (ea := evE G a true) (eb := evE G i true) (by have := xf.hu; omega) (ckE_snd a C l h.1.2 xf true) (ckE_snd i C r h.2 xf true) (plainIx h.1.1)
    · cases h
  | .sl a lo hi, C, e, h, X, ad, N, G, k, xf, pk => by
    rw [ckE] at h
    split at h
    · rename_i l r p q
      obtain rfl := vSubscript_inv q
      split at h
      · rename_i x y p2 q2
        obtain rfl := vSlice_inv q2
        simp only [Bool.and_eq_true] at h
        exact m_sl (ea := evE G a true) (el := evO G lo) (eh := evO G hi) (ckE_snd a C l h.1.1 xf true) (ckO_snd lo C x h.1.2 xf) (ckO_snd hi C y h.2 xf)
      · cases h
    · cases h
  | .rev a, C, e, h, X, ad, N, G, k, xf, pk => by
    rw [ckE] at h
    split at h
    · rename_i l r p q
      obtain rfl := vSubscript_inv q
      split at h
      · rename_i st p2 q2
        obtain rfl := vSlice_inv q2
        split at h
        · rename_i o p3 q3
          obtain rfl := vUnaryOp_inv q3
          split at h
          · rename_i j p4 q4
            obtain rfl := vConstant_inv q4
            exact m_rev (ea := evE G a true) (ckE_snd a C l h xf true)
          · cases h
        · cases h
      · cases h
    · cases h
  | .lc p it t x, C, e, h, X, ad, N, G, k, xf, pk => by
    rw [ckE] at h
    split at h
    · rename_i elt tg iter ifs s pos q
      obtain rfl := vListComp_inv q
      simp only [Bool.and_eq_true, Bool.not_eq_true'] at h
      obtain ⟨⟨⟨⟨⟨h1, h2⟩, h3⟩, h4⟩, h5⟩, h6⟩ := h
      exact PEw' (m_lc (ei := evI G it true) (et := evTs G t) (ee := evE G x false) xf.calm xf.nd (blk_of xf h1) (ownOf_snd C p) (ckI_snd it C tg iter h3 xf true) (fun s H A cl fp => ckP_snd p _ tg h4 (xf.inBlk s H _ A cl fp))
        (fun s H A cl fp => ckTs_snd t _ ifs h5 (xf.inBlk s H _ A cl fp)) (fun s H A cl fp => ckE_snd x _ elt h6 (xf.inBlk s H _ A cl fp) false) (set_fold h2)) fun σ H Q z => tMF.tM z
    · cases h
  | .dpop i, C, e, h, X, ad, N, G, k, xf, pk => by
    rw [ckE] at h
    split at h
    · rename_i n pos q
      obtain rfl := vCall_inv q
      split at h
      · rename_i r x apos q2
        obtain rfl := vAttribute_inv q2
        simp only [Bool.and_eq_true, decide_eq_true_eq] at h
        obtain ⟨⟨rfl, h1⟩, h2⟩ := h
        obtain ⟨y, p, rfl, hv⟩ := pvar_of xf h2
        exact m_dpop hv h1
      · cases h
    · cases h
  | .dlen i, C, e, h, X, ad, N, G, k, xf, pk => by
    rw [ckE] at h
    split at h
    · rename_i n l pos q
      obtain rfl := vCall_inv q
      split at h
      · rename_i x p2 q2
        obtain rfl := vName_inv q2
        simp only [Bool.and_eq_true, decide_eq_true_eq] at h
        obtain ⟨⟨rfl, h1⟩, h2⟩ := h
        obtain ⟨y, p, rfl, hv⟩ := pvar_of xf h2
        obtain ⟨g1, g2⟩ := blt_of xf h1
        exact m_dlen g1 g2 hv
      · cases h
    · cases h
  | .dead, C, e, h, X, ad, N, G, k, xf, pk => dead_E fun _ _ => rfl
  | .fnv _, C, e, h, X, ad, N, G, k, xf, pk => nomatch h
  | .nil, C, e, h, X, ad, N, G, k, xf, pk => nomatch h
  | .cons _ _, C, e, h, X, ad, N, G, k, xf, pk => nomatch h
  | .scons _ _, C, e, h, X, ad, N, G, k, xf, pk => nomatch h
  | .callv _ _, C, e, h, X, ad, N, G, k, xf, pk => nomatch h
  | .rng _, C, e, h, X, ad, N, G, k, xf, pk => nomatch h
  | .enum _, C, e, h, X, ad, N, G, k, xf, pk => nomatch h
  | .zip _ _, C, e, h, X, ad, N, G, k, xf, pk => nomatch h
  | .items _, C, e, h, X, ad, N, G, k, xf, pk => nomatch h
  | .vals _, C, e, h, X, ad, N, G, k, xf, pk => nomatch h
  | .rvd _, C, e, h, X, ad, N, G, k, xf, pk => nomatch h
  | .lc2 _ _ _ _ _ _ _, C, e, h, X, ad, N, G, k, xf, pk => nomatch h
  | .dc _ _ _ _ _ _, C, e, h, X, ad, N, G, k, xf, pk => nomatch h
  | .fstr _, C, e, h, X, ad, N, G, k, xf, pk => nomatch h
  | .lrev a, C, e, h, X, ad, N, G, k, xf, pk => by
    rw [ckE] at h
    split at h
    · rename_i n c pos q
      obtain rfl := vCall_inv q
      split at h
      · rename_i x p m l p2 q2 q3
        obtain rfl := vName_inv q2
        obtain rfl := vCall_inv q3
        split at h
        · rename_i y p3 q4
          obtain rfl := vName_inv q4
          simp only [Bool.and_eq_true, decide_eq_true_eq, Bool.not_eq_true'] at h
          obtain ⟨⟨⟨⟨⟨rfl, rfl⟩, h1⟩, h2⟩, h3⟩, h4⟩ := h
          obtain ⟨g1, g2⟩ := blt_of xf h1
          obtain ⟨g3, g4⟩ := blt_of xf h2
          exact m_lrev (ea := evE G a true) xf.calm g1 g2 g3 g4 (ckE_snd a C l h4 xf true) h3
        · cases h
      · cases h
    · cases h
theorem ckT_snd : ∀ (c : CE) (C : Ct) (e : Expr), ckT c C e = true → ∀ {X : Cx} {ad : Option Addr} {N : En} {G : Cfg} {k : Nat} (xf : XF X ad N G k C), PT X e (tT (gd X ad) N (evT G c))
  | .not a, C, e, h, X, ad, N, G, k, xf => by
    rw [ckT] at h
    split at h
    · rename_i l p q
      obtain rfl := vUnaryOp_inv q
      exact n_not (ea := evT G a) (ckT_snd a C l h xf)
    · cases h
  | .and es, C, e, h, X, ad, N, G, k, xf => by
    rw [ckT] at h
    split at h
    · rename_i ls p q
      obtain rfl := vBoolOp_inv q
      exact (ckTand_snd es C ls h xf p).pt
    · cases h
  | .or es, C, e, h, X, ad, N, G, k, xf => by
    rw [ckT] at h
    split at h
    · rename_i ls p q
      obtain rfl := vBoolOp_inv q
      exact (ckTor_snd es C ls h xf p).pt
    · cases h
  | .cmp op a b, C, e, h, X, ad, N, G, k, xf => by
    rw [ckT] at h
    split at h
    · rename_i l o r p q
      obtain rfl := vCompare_inv q
      simp only [Bool.and_eq_true, decide_eq_true_eq, Bool.not_eq_true'] at h
      obtain ⟨⟨⟨rfl, h0⟩, h1⟩, h2⟩ := h
      exact n_cmp (ea := evE G a true) (eb := evE G b true) xf.hu (set_marks h0) (ckE_snd a C l h1 xf true) (ckE_snd b C r h2 xf true)
    · cases h
  | .cmp2 o1 o2 a b c, C, e, h, X, ad, N, G, k, xf => by
    rw [ckT] at h
    split at h
    · rename_i l o o' r s p q
      obtain rfl := vCompare_inv q
      simp only [Bool.and_eq_true, decide_eq_true_eq, Bool.not_eq_true'] at h
      obtain ⟨⟨⟨⟨⟨rfl, rfl⟩, h0⟩, h1⟩, h2⟩, h3⟩ := h
      exact n_chain (ea := evE G a true) (eb := evE G b true) (ec := evE G c true) xf.hu (set_marks h0) (ckE_snd a C l h1 xf true) (ckE_snd b C r h2 xf true) (ckE_snd c C s h3 xf true)
    · cases h
  | .isN a, C, e, h, X, ad, N, G, k, xf => by
    rw [ckT] at h
    split at h
    · rename_i l r p q
      obtain rfl := vCompare_inv q
      split at h
      · rename_i q2
        obtain rfl := vConstant_inv q2
        exact n_isN (ea := evE G a true) (ckE_snd a C l h xf true)
      · cases h
    · cases h
  | .notN a, C, e, h, X, ad, N, G, k, xf => by
    rw [ckT] at h
    split at h
    · rename_i l r p q
      obtain rfl := vCompare_inv q
      split at h
      · rename_i q2
        obtain rfl := vConstant_inv q2
        exact n_notN (ea := evE G a true) (ckE_snd a C l h xf true)
      · cases h
    · cases h
  | .call f es, C, e, h, X, ad, N, G, k, xf => by
    rw [ckT] at h
    split at h
    · rename_i n l ls p q
      obtain rfl := vCall_inv q
      split at h
      · rename_i x p2 q2
        obtain rfl := vName_inv q2
        simp only [Bool.and_eq_true] at h
        obtain ⟨⟨⟨⟨⟨h1, h2⟩, h3⟩, h4⟩, h5⟩, h6⟩ := h
        have key := tru_snd (e := .Call (.Name x p2) (l :: ls) [] p) rfl (call_snd (pk := true) (pos := p) (p := p2) xf (by simp only [Bool.and_eq_true]; exact ⟨⟨⟨⟨h1, h2⟩, h3⟩, h5⟩, h6⟩) (ckL_snd es C _ h4 xf))
        have e2 : evT G (.call f es) = fun env dr => (evE G (.call f es) true env dr).bind fun x dr => ofO x.tru dr := by
          funext env dr
          show ((evL G es env dr).bind fun ds dr => match G.fns f with
            | some g => (g ds dr).bind fun x dr => ofO x.tru dr
            | none => .bad) = Res.bind ((evL G es env dr).bind fun ds dr => match G.fns f with
            | some g => g ds dr
            | none => .bad) _
          cases evL G es env dr with
          | ok ds dr =>
            rw [Res.bind_ok, Res.bind_ok]
            cases G.fns f <;> rfl
          | exc _ _ => rfl
          | bad => rfl
        rw [e2]
        exact key
      · cases h
    · cases h
  | .blt f es, C, e, h, X, ad, N, G, k, xf => by
    rw [ckT] at h
    split at h
    · rename_i n l ls p q
      obtain rfl := vCall_inv q
      split at h
      · rename_i x p2 q2
        obtain rfl := vName_inv q2
        simp only [Bool.and_eq_true, decide_eq_true_eq] at h
        obtain ⟨⟨⟨rfl, h2⟩, h3⟩, h4⟩ := h
        obtain ⟨g1, g2⟩ := blt_of xf h2
        have h4' := h4
        rw [List.all_cons, Bool.and_eq_true] at h4'
        have key := tru_snd (e := .Call (.Name (biNm f) p2) (l :: ls) [] p) rfl (m_blt (pk := true) (pos := p) (p := p2) (el := evLp G es) xf.calm g1 g2 (ckLp_snd es C _ h3 xf) (star_cons (by simpa using h4'.1)) (star_any h4'.2))
        have e2 : evT G (.blt f es) = fun env dr => ((evLp G es env dr).bind fun ds dr => ofO (bltD f ds) dr).bind fun x dr => ofO x.tru dr := by
          funext env dr
          show ((evLp G es env dr).bind fun ds dr => (ofO (bltD f ds) dr).bind fun x dr => ofO x.tru dr) = _
          cases evLp G es env dr <;> rfl
        rw [e2]
        exact key
      · cases h
    · cases h
  | .isi a t, C, e, h, X, ad, N, G, k, xf => by
    rw [ckT] at h
    split at h
    · rename_i n l r p q
      obtain rfl := vCall_inv q
      split at h
      · rename_i x p2 y p3 q2 q3
        obtain rfl := vName_inv q2
        obtain rfl := vName_inv q3
        simp only [Bool.and_eq_true, decide_eq_true_eq, Bool.not_eq_true'] at h
        obtain ⟨⟨⟨⟨⟨rfl, rfl⟩, h2⟩, h3⟩, h4⟩, h5⟩ := h
        obtain ⟨g1, g2⟩ := blt_of xf h2
        obtain ⟨g3, g4⟩ := blt_of xf h3
        have key := tru_snd (e := .Call (.Name "isinstance" p2) [l, .Name (tyNm t) p3] [] p) rfl (m_isi (pk := true) (pos := p) (p := p2) (p2 := p3) (ea := evE G a true) g1 g2 g3 g4 (ckE_snd a C l h5 xf true) (star_cons h4))
        have e2 : evT G (.isi a t) = fun env dr => ((evE G a true env dr).bind fun x dr => ofO ((isiD t x).map D.bl) dr).bind fun (x : D) dr => ofO x.tru dr := by
          funext env dr
          show ((evE G a true env dr).bind fun x dr => ofO (isiD t x) dr) = _
          cases evE G a true env dr with
          | ok d dr =>
            rw [Res.bind_ok, Res.bind_ok]
            cases isiD t d <;> rfl
          | exc _ _ => rfl
          | bad => rfl
        rw [e2]
        exact key
      · cases h
    · cases h
  | .var i, C, e, h, X, ad, N, G, k, xf => by
    obtain ⟨x, p, rfl, hv⟩ := pvar_of xf h
    exact tru_snd rfl (m_var (pk := true) hv)
  | .ix a i, C, e, h, X, ad, N, G, k, xf => by
    rw [ckT] at h
    split at h
    · rename_i l r p q
      obtain rfl := vSubscript_inv q
      simp only [Bool.and_eq_true, Bool.not_eq_true'] at h
      have key := tru_snd (e := .Subscript l r p) rfl (m_ix (pk := true) (pos := p) (ea := evE G a true) (eb := evE G i true) (by have := xf.hu; omega) (ckE_snd a C l h.1.2 xf true) (ckE_snd i C r h.2 xf true) (plainIx h.1.1))
      have e2 : evT G (.ix a i) = fun env dr => ((evE G a true env dr).bind fun x dr => (evE G i true env dr).bind fun y dr => ofO (ixD x y) dr).bind fun x dr => ofO x.tru dr := by
        funext env dr
        show ((evE G a true env dr).bind fun x dr => (evE G i true env dr).bind fun y dr => (ofO (ixD x y) dr).bind fun x dr => ofO x.tru dr) = _
        cases evE G a true env dr with
        | ok d dr =>
          rw [Res.bind_ok, Res.bind_ok]
          cases evE G i true env dr <;> rfl
        | exc _ _ => rfl
        | bad => rfl
      rw [e2]
      exact key
    · cases h
  | .dead, C, e, h, X, ad, N, G, k, xf => dead_T fun _ _ => rfl
  | .non, C, e, h, X, ad, N, G, k, xf => nomatch h
  | .bl _, C, e, h, X, ad, N, G, k, xf => nomatch h
  | .int _, C, e, h, X, ad, N, G, k, xf => nomatch h
  | .str _, C, e, h, X, ad, N, G, k, xf => nomatch h
  | .glo _, C, e, h, X, ad, N, G, k, xf => nomatch h
  | .fnv _, C, e, h, X, ad, N, G, k, xf => nomatch h
  | .nil, C, e, h, X, ad, N, G, k, xf => nomatch h
  | .cons _ _, C, e, h, X, ad, N, G, k, xf => nomatch h
  | .scons _ _, C, e, h, X, ad, N, G, k, xf => nomatch h
  | .bin _ _ _, C, e, h, X, ad, N, G, k, xf => nomatch h
  | .neg _, C, e, h, X, ad, N, G, k, xf => nomatch h
  | .ife _ _ _, C, e, h, X, ad, N, G, k, xf => nomatch h
  | .tup _, C, e, h, X, ad, N, G, k, xf => nomatch h
  | .lst _, C, e, h, X, ad, N, G, k, xf => nomatch h
  | .dicE _, C, e, h, X, ad, N, G, k, xf => nomatch h
  | .callv _ _, C, e, h, X, ad, N, G, k, xf => nomatch h
  | .meth _ _ _, C, e, h, X, ad, N, G, k, xf => nomatch h
  | .sl _ _ _, C, e, h, X, ad, N, G, k, xf => nomatch h
  | .rev _, C, e, h, X, ad, N, G, k, xf => nomatch h
  | .rng _, C, e, h, X, ad, N, G, k, xf => nomatch h
  | .enum _, C, e, h, X, ad, N, G, k, xf => nomatch h
  | .zip _ _, C, e, h, X, ad, N, G, k, xf => nomatch h
  | .items _, C, e, h, X, ad, N, G, k, xf => nomatch h
  | .vals _, C, e, h, X, ad, N, G, k, xf => nomatch h
  | .rvd _, C, e, h, X, ad, N, G, k, xf => nomatch h
  | .lc _ _ _ _, C, e, h, X, ad, N, G, k, xf => nomatch h
  | .lc2 _ _ _ _ _ _ _, C, e, h, X, ad, N, G, k, xf => nomatch h
  | .dc _ _ _ _ _ _, C, e, h, X, ad, N, G, k, xf => nomatch h
  | .dpop _, C, e, h, X, ad, N, G, k, xf => nomatch h
  | .dlen _, C, e, h, X, ad, N, G, k, xf => nomatch h
  | .fstr _, C, e, h, X, ad, N, G, k, xf => nomatch h
  | .lrev _, C, e, h, X, ad, N, G, k, xf => nomatch h
theorem ckTs_snd : ∀ (c : CE) (C : Ct) (es : List Expr), ckTs c C es = true → ∀ {X : Cx} {ad : Option Addr} {N : En} {G : Cfg} {k : Nat} (xf : XF X ad N G k C), PTs X es (tT (gd X ad) N (evTs G c))
  | .nil, C, es, h, X, ad, N, G, k, xf => by
    rw [ckTs, List.isEmpty_iff] at h
    subst h
    exact ts_nil
  | .cons c cs, C, es, h, X, ad, N, G, k, xf => by
    match es, h with
    | [], h => cases h
    | [e], h =>
      have h : (isNil cs && ckT c C e) = true := h
      rw [Bool.and_eq_true] at h
      obtain rfl := isNil_eq h.1
      exact pts_one (ckT_snd c C e h.2 xf)
    | e :: r :: rs, h => cases h
  | .var _, C, e, h, X, ad, N, G, k, xf => nomatch h
  | .non, C, e, h, X, ad, N, G, k, xf => nomatch h
  | .bl _, C, e, h, X, ad, N, G, k, xf => nomatch h
  | .int _, C, e, h, X, ad, N, G, k, xf => nomatch h
  | .str _, C, e, h, X, ad, N, G, k, xf => nomatch h
  | .glo _, C, e, h, X, ad, N, G, k, xf => nomatch h
  | .fnv _, C, e, h, X, ad, N, G, k, xf => nomatch h
  | .scons _ _, C, e, h, X, ad, N, G, k, xf => nomatch h
  | .bin _ _ _, C, e, h, X, ad, N, G, k, xf => nomatch h
  | .neg _, C, e, h, X, ad, N, G, k, xf => nomatch h
  | .cmp _ _ _, C, e, h, X, ad, N, G, k, xf => nomatch h
  | .cmp2 _ _ _ _ _, C, e, h, X, ad, N, G, k, xf => nomatch h
  | .isN _, C, e, h, X, ad, N, G, k, xf => nomatch h
  | .notN _, C, e, h, X, ad, N, G, k, xf => nomatch h
  | .and _, C, e, h, X, ad, N, G, k, xf => nomatch h
  | .or _, C, e, h, X, ad, N, G, k, xf => nomatch h
  | .not _, C, e, h, X, ad, N, G, k, xf => nomatch h
  | .ife _ _ _, C, e, h, X, ad, N, G, k, xf => nomatch h
  | .tup _, C, e, h, X, ad, N, G, k, xf => nomatch h
  | .lst _, C, e, h, X, ad, N, G, k, xf => nomatch h
  | .dicE _, C, e, h, X, ad, N, G, k, xf => nomatch h
  | .call _ _, C, e, h, X, ad, N, G, k, xf => nomatch h
  | .callv _ _, C, e, h, X, ad, N, G, k, xf => nomatch h
  | .blt _ _, C, e, h, X, ad, N, G, k, xf => nomatch h
  | .isi _ _, C, e, h, X, ad, N, G, k, xf => nomatch h
  | .meth _ _ _, C, e, h, X, ad, N, G, k, xf => nomatch h
  | .ix _ _, C, e, h, X, ad, N, G, k, xf => nomatch h
  | .sl _ _ _, C, e, h, X, ad, N, G, k, xf => nomatch h
  | .rev _, C, e, h, X, ad, N, G, k, xf => nomatch h
  | .rng _, C, e, h, X, ad, N, G, k, xf => nomatch h
  | .enum _, C, e, h, X, ad, N, G, k, xf => nomatch h
  | .zip _ _, C, e, h, X, ad, N, G, k, xf => nomatch h
  | .items _, C, e, h, X, ad, N, G, k, xf => nomatch h
  | .vals _, C, e, h, X, ad, N, G, k, xf => nomatch h
  | .rvd _, C, e, h, X, ad, N, G, k, xf => nomatch h
  | .lc _ _ _ _, C, e, h, X, ad, N, G, k, xf => nomatch h
  | .lc2 _ _ _ _ _ _ _, C, e, h, X, ad, N, G, k, xf => nomatch h
  | .dc _ _ _ _ _ _, C, e, h, X, ad, N, G, k, xf => nomatch h
  | .dpop _, C, e, h, X, ad, N, G, k, xf => nomatch h
  | .dlen _, C, e, h, X, ad, N, G, k, xf => nomatch h
  | .fstr _, C, e, h, X, ad, N, G, k, xf => nomatch h
  | .lrev _, C, e, h, X, ad, N, G, k, xf => nomatch h
  | .dead, C, e, h, X, ad, N, G, k, xf => nomatch h
theorem ckAnd_snd : ∀ (c : CE) (C : Ct) (es : List Expr), ckAO c C es = true → ∀ {X : Cx} {ad : Option Addr} {N : En} {G : Cfg} {k : Nat} (xf : XF X ad N G k C), ∀ (pk : Bool) (pos : Pos), PE X (.BoolOp .And es pos) (tM (gd X ad) N pk (evAnd G c))
  | .cons c cs, C, es, h, X, ad, N, G, k, xf, pk, pos => by
    match es, h with
    | [], h => cases h
    | [e], h =>
      have h : (isNil cs && ckE c C e) = true := h
      rw [Bool.and_eq_true] at h
      obtain rfl := isNil_eq h.1
      exact bool1 (m_up (ckE_snd c C e h.2 xf false))
    | e :: r :: rs, h =>
      have h : (!isNil cs && ckE c C e && ckAO cs C (r :: rs)) = true := h
      simp only [Bool.and_eq_true, Bool.not_eq_true'] at h
      rw [evAnd_cons h.1.1]
      exact m_and (ea := evE G c true) (eb := evAnd G cs) (ckE_snd c C e h.1.2 xf true) (ckAnd_snd cs C (r :: rs) h.2 xf pk pos)
  | .var _, C, e, h, X, ad, N, G, k, xf, pk, pos => nomatch h
  | .non, C, e, h, X, ad, N, G, k, xf, pk, pos => nomatch h
  | .bl _, C, e, h, X, ad, N, G, k, xf, pk, pos => nomatch h
  | .int _, C, e, h, X, ad, N, G, k, xf, pk, pos => nomatch h
  | .str _, C, e, h, X, ad, N, G, k, xf, pk, pos => nomatch h
  | .glo _, C, e, h, X, ad, N, G, k, xf, pk, pos => nomatch h
  | .fnv _, C, e, h, X, ad, N, G, k, xf, pk, pos => nomatch h
  | .nil, C, e, h, X, ad, N, G, k, xf, pk, pos => nomatch h
  | .scons _ _, C, e, h, X, ad, N, G, k, xf, pk, pos => nomatch h
  | .bin _ _ _, C, e, h, X, ad, N, G, k, xf, pk, pos => nomatch h
  | .neg _, C, e, h, X, ad, N, G, k, xf, pk, pos => nomatch h
  | .cmp _ _ _, C, e, h, X, ad, N, G, k, xf, pk, pos => nomatch h
  | .cmp2 _ _ _ _ _, C, e, h, X, ad, N, G, k, xf, pk, pos => nomatch h
  | .isN _, C, e, h, X, ad, N, G, k, xf, pk, pos => nomatch h
  | .notN _, C, e, h, X, ad, N, G, k, xf, pk, pos => nomatch h
  | .and _, C, e, h, X, ad, N, G, k, xf, pk, pos => nomatch h
  | .or _, C, e, h, X, ad, N, G, k, xf, pk, pos => nomatch h
  | .not _, C, e, h, X, ad, N, G, k, xf, pk, pos => nomatch h
  | .ife _ _ _, C, e, h, X, ad, N, G, k, xf, pk, pos => nomatch h
  | .tup _, C, e, h, X, ad, N, G, k, xf, pk, pos => nomatch h
  | .lst _, C, e, h, X, ad, N, G, k, xf, pk, pos => nomatch h
  | .dicE _, C, e, h, X, ad, N, G, k, xf, pk, pos => nomatch h
  | .call _ _, C, e, h, X, ad, N, G, k, xf, pk, pos => nomatch h
  | .callv _ _, C, e, h, X, ad, N, G, k, xf, pk, pos => nomatch h
  | .blt _ _, C, e, h, X, ad, N, G, k, xf, pk, pos => nomatch h
  | .isi _ _, C, e, h, X, ad, N, G, k, xf, pk, pos => nomatch h
  | .meth _ _ _, C, e, h, X, ad, N, G, k, xf, pk, pos => nomatch h
  | .ix _ _, C, e, h, X, ad, N, G, k, xf, pk, pos => nomatch h
  | .sl _ _ _, C, e, h, X, ad, N, G, k, xf, pk, pos => nomatch h
  | .rev _, C, e, h, X, ad, N, G, k, xf, pk, pos => nomatch h
  | .rng _, C, e, h, X, ad, N, G, k, xf, pk, pos => nomatch h
  | .enum _, C, e, h, X, ad, N, G, k, xf, pk, pos => nomatch h
  | .zip _ _, C, e, h, X, ad, N, G, k, xf, pk, pos => nomatch h
  | .items _, C, e, h, X, ad, N, G, k, xf, pk, pos => nomatch h
  | .vals _, C, e, h, X, ad, N, G, k, xf, pk, pos => nomatch h
  | .rvd _, C, e, h, X, ad, N, G, k, xf, pk, pos => nomatch h
  | .lc _ _ _ _, C, e, h, X, ad, N, G, k, xf, pk, pos => nomatch h
  | .lc2 _ _ _ _ _ _ _, C, e, h, X, ad, N, G, k, xf, pk, pos => nomatch h
  | .dc _ _ _ _ _ _, C, e, h, X, ad, N, G, k, xf, pk, pos => nomatch h
  | .dpop _, C, e, h, X, ad, N, G, k, xf, pk, pos => nomatch h
  | .dlen _, C, e, h, X, ad, N, G, k, xf, pk, pos => nomatch h
  | .fstr _, C, e, h, X, ad, N, G, k, xf, pk, pos => nomatch h
  | .lrev _, C, e, h, X, ad, N, G, k, xf, pk, pos => nomatch h
  | .dead, C, e, h, X, ad, N, G, k, xf, pk, pos => nomatch h
theorem ckOr_snd : ∀ (c : CE) (C : Ct) (es : List Expr), ckAO c C es = true → ∀ {X : Cx} {ad : Option Addr} {N : En} {G : Cfg} {k : Nat} (xf : XF X ad N G k C), ∀ (pk : Bool) (pos : Pos), PE X (.BoolOp .Or es pos) (tM (gd X ad) N pk (evOr G c))
  | .cons c cs, C, es, h, X, ad, N, G, k, xf, pk, pos => by
    match es, h with
    | [], h => cases h
    | [e], h =>
      have h : (isNil cs && ckE c C e) = true := h
      rw [Bool.and_eq_true] at h
      obtain rfl := isNil_eq h.1
      exact bool1 (m_up (ckE_snd c C e h.2 xf false))
    | e :: r :: rs, h =>
      have h : (!isNil cs && ckE c C e && ckAO cs C (r :: rs)) = true := h
      simp only [Bool.and_eq_true, Bool.not_eq_true'] at h
      rw [evOr_cons h.1.1]
      exact m_or (ea := evE G c true) (eb := evOr G cs) (ckE_snd c C e h.1.2 xf true) (ckOr_snd cs C (r :: rs) h.2 xf pk pos)
  | .var _, C, e, h, X, ad, N, G, k, xf, pk, pos => nomatch h
  | .non, C, e, h, X, ad, N, G, k, xf, pk, pos => nomatch h
  | .bl _, C, e, h, X, ad, N, G, k, xf, pk, pos => nomatch h
  | .int _, C, e, h, X, ad, N, G, k, xf, pk, pos => nomatch h
  | .str _, C, e, h, X, ad, N, G, k, xf, pk, pos => nomatch h
  | .glo _, C, e, h, X, ad, N, G, k, xf, pk, pos => nomatch h
  | .fnv _, C, e, h, X, ad, N, G, k, xf, pk, pos => nomatch h
  | .nil, C, e, h, X, ad, N, G, k, xf, pk, pos => nomatch h
  | .scons _ _, C, e, h, X, ad, N, G, k, xf, pk, pos => nomatch h
  | .bin _ _ _, C, e, h, X, ad, N, G, k, xf, pk, pos => nomatch h
  | .neg _, C, e, h, X, ad, N, G, k, xf, pk, pos => nomatch h
  | .cmp _ _ _, C, e, h, X, ad, N, G, k, xf, pk, pos => nomatch h
  | .cmp2 _ _ _ _ _, C, e, h, X, ad, N, G, k, xf, pk, pos => nomatch h
  | .isN _, C, e, h, X, ad, N, G, k, xf, pk, pos => nomatch h
  | .notN _, C, e, h, X, ad, N, G, k, xf, pk, pos => nomatch h
  | .and _, C, e, h, X, ad, N, G, k, xf, pk, pos => nomatch h
  | .or _, C, e, h, X, ad, N, G, k, xf, pk, pos => nomatch h
  | .not _, C, e, h, X, ad, N, G, k, xf, pk, pos => nomatch h
  | .ife _ _ _, C, e, h, X, ad, N, G, k, xf, pk, pos => nomatch h
  | .tup _, C, e, h, X, ad, N, G, k, xf, pk, pos => nomatch h
  | .lst _, C, e, h, X, ad, N, G, k, xf, pk, pos => nomatch h
  | .dicE _, C, e, h, X, ad, N, G, k, xf, pk, pos => nomatch h
  | .call _ _, C, e, h, X, ad, N, G, k, xf, pk, pos => nomatch h
  | .callv _ _, C, e, h, X, ad, N, G, k, xf, pk, pos => nomatch h
  | .blt _ _, C, e, h, X, ad, N, G, k, xf, pk, pos => nomatch h
  | .isi _ _, C, e, h, X, ad, N, G, k, xf, pk, pos => nomatch h
  | .meth _ _ _, C, e, h, X, ad, N, G, k, xf, pk, pos => nomatch h
  | .ix _ _, C, e, h, X, ad, N, G, k, xf, pk, pos => nomatch h
  | .sl _ _ _, C, e, h, X, ad, N, G, k, xf, pk, pos => nomatch h
  | .rev _, C, e, h, X, ad, N, G, k, xf, pk, pos => nomatch h
  | .rng _, C, e, h, X, ad, N, G, k, xf, pk, pos => nomatch h
  | .enum _, C, e, h, X, ad, N, G, k, xf, pk, pos => nomatch h
  | .zip _ _, C, e, h, X, ad, N, G, k, xf, pk, pos => nomatch h
  | .items _, C, e, h, X, ad, N, G, k, xf, pk, pos => nomatch h
  | .vals _, C, e, h, X, ad, N, G, k, xf, pk, pos => nomatch h
  | .rvd _, C, e, h, X, ad, N, G, k, xf, pk, pos => nomatch h
  | .lc _ _ _ _, C, e, h, X, ad, N, G, k, xf, pk, pos => nomatch h
  | .lc2 _ _ _ _ _ _ _, C, e, h, X, ad, N, G, k, xf, pk, pos => nomatch h
  | .dc _ _ _ _ _ _, C, e, h, X, ad, N, G, k, xf, pk, pos => nomatch h
  | .dpop _, C, e, h, X, ad, N, G, k, xf, pk, pos => nomatch h
  | .dlen _, C, e, h, X, ad, N, G, k, xf, pk, pos => nomatch h
  | .fstr _, C, e, h, X, ad, N, G, k, xf, pk, pos => nomatch h
  | .lrev _, C, e, h, X, ad, N, G, k, xf, pk, pos => nomatch h
  | .dead, C, e, h, X, ad, N, G, k, xf, pk, pos => nomatch h
theorem ckTand_snd : ∀ (c : CE) (C : Ct) (es : List Expr), ckTB c C es = true → ∀ {X : Cx} {ad : Option Addr} {N : En} {G : Cfg} {k : Nat} (xf : XF X ad N G k C), ∀ (pos : Pos), PW X (.BoolOp .And es pos) (tT (gd X ad) N (evTand G c))
  | .cons c cs, C, es, h, X, ad, N, G, k, xf, pos => by
    match es, h with
    | [], h => cases h
    | [e], h =>
      have h : (isNil cs && ckT c C e) = true := h
      rw [Bool.and_eq_true] at h
      obtain rfl := isNil_eq h.1
      exact n_and1 (ckT_snd c C e h.2 xf)
    | e :: r :: rs, h =>
      have h : (!isNil cs && ckT c C e && ckTB cs C (r :: rs)) = true := h
      simp only [Bool.and_eq_true, Bool.not_eq_true'] at h
      rw [evTand_cons h.1.1]
      exact n_and (ea := evT G c) (eb := evTand G cs) (ckT_snd c C e h.1.2 xf) (ckTand_snd cs C (r :: rs) h.2 xf pos)
  | .var _, C, e, h, X, ad, N, G, k, xf, pos => nomatch h
  | .non, C, e, h, X, ad, N, G, k, xf, pos => nomatch h
  | .bl _, C, e, h, X, ad, N, G, k, xf, pos => nomatch h
  | .int _, C, e, h, X, ad, N, G, k, xf, pos => nomatch h
  | .str _, C, e, h, X, ad, N, G, k, xf, pos => nomatch h
  | .glo _, C, e, h, X, ad, N, G, k, xf, pos => nomatch h
  | .fnv _, C, e, h, X, ad, N, G, k, xf, pos => nomatch h
  | .nil, C, e, h, X, ad, N, G, k, xf, pos => nomatch h
  | .scons _ _, C, e, h, X, ad, N, G, k, xf, pos => nomatch h
  | .bin _ _ _, C, e, h, X, ad, N, G, k, xf, pos => nomatch h
  | .neg _, C, e, h, X, ad, N, G, k, xf, pos => nomatch h
  | .cmp _ _ _, C, e, h, X, ad, N, G, k, xf, pos => nomatch h
  | .cmp2 _ _ _ _ _, C, e, h, X, ad, N, G, k, xf, pos => nomatch h
  | .isN _, C, e, h, X, ad, N, G, k, xf, pos => nomatch h
  | .notN _, C, e, h, X, ad, N, G, k, xf, pos => nomatch h
  | .and _, C, e, h, X, ad, N, G, k, xf, pos => nomatch h
  | .or _, C, e, h, X, ad, N, G, k, xf, pos => nomatch h
  | .not _, C, e, h, X, ad, N, G, k, xf, pos => nomatch h
  | .ife _ _ _, C, e, h, X, ad, N, G, k, xf, pos => nomatch h
  | .tup _, C, e, h, X, ad, N, G, k, xf, pos => nomatch h
  | .lst _, C, e, h, X, ad, N, G, k, xf, pos => nomatch h
  | .dicE _, C, e, h, X, ad, N, G, k, xf, pos => nomatch h
  | .call _ _, C, e, h, X, ad, N, G, k, xf, pos => nomatch h
  | .callv _ _, C, e, h, X, ad, N, G, k, xf, pos => nomatch h
  | .blt _ _, C, e, h, X, ad, N, G, k, xf, pos => nomatch h
  | .isi _ _, C, e, h, X, ad, N, G, k, xf, pos => nomatch h
  | .meth _ _ _, C, e, h, X, ad, N, G, k, xf, pos => nomatch h
  | .ix _ _, C, e, h, X, ad, N, G, k, xf, pos => nomatch h
  | .sl _ _ _, C, e, h, X, ad, N, G, k, xf, pos => nomatch h
  | .rev _, C, e, h, X, ad, N, G, k, xf, pos => nomatch h
  | .rng _, C, e, h, X, ad, N, G, k, xf, pos => nomatch h
  | .enum _, C, e, h, X, ad, N, G, k, xf, pos => nomatch h
  | .zip _ _, C, e, h, X, ad, N, G, k, xf, pos => nomatch h
  | .items _, C, e, h, X, ad, N, G, k, xf, pos => nomatch h
  | .vals _, C, e, h, X, ad, N, G, k, xf, pos => nomatch h
  | .rvd _, C, e, h, X, ad, N, G, k, xf, pos => nomatch h
  | .lc _ _ _ _, C, e, h, X, ad, N, G, k, xf, pos => nomatch h
  | .lc2 _ _ _ _ _ _ _, C, e, h, X, ad, N, G, k, xf, pos => nomatch h
  | .dc _ _ _ _ _ _, C, e, h, X, ad, N, G, k, xf, pos => nomatch h
  | .dpop _, C, e, h, X, ad, N, G, k, xf, pos => nomatch h
  | .dlen _, C, e, h, X, ad, N, G, k, xf, pos => nomatch h
  | .fstr _, C, e, h, X, ad, N, G, k, xf, pos => nomatch h
  | .lrev _, C, e, h, X, ad, N, G, k, xf, pos => nomatch h
  | .dead, C, e, h, X, ad, N, G, k, xf, pos => nomatch h
theorem ckTor_snd : ∀ (c : CE) (C : Ct) (es : List Expr), ckTB c C es = true → ∀ {X : Cx} {ad : Option Addr} {N : En} {G : Cfg} {k : Nat} (xf : XF X ad N G k C), ∀ (pos : Pos), PW X (.BoolOp .Or es pos) (tT (gd X ad) N (evTor G c))
  | .cons c cs, C, es, h, X, ad, N, G, k, xf, pos => by
    match es, h with
    | [], h => cases h
    | [e], h =>
      have h : (isNil cs && ckT c C e) = true := h
      rw [Bool.and_eq_true] at h
      obtain rfl := isNil_eq h.1
      exact n_or1 (ckT_snd c C e h.2 xf)
    | e :: r :: rs, h =>
      have h : (!isNil cs && ckT c C e && ckTB cs C (r :: rs)) = true := h
      simp only [Bool.and_eq_true, Bool.not_eq_true'] at h
      rw [evTor_cons h.1.1]
      exact n_or (ea := evT G c) (eb := evTor G cs) (ckT_snd c C e h.1.2 xf) (ckTor_snd cs C (r :: rs) h.2 xf pos)
  | .var _, C, e, h, X, ad, N, G, k, xf, pos => nomatch h
  | .non, C, e, h, X, ad, N, G, k, xf, pos => nomatch h
  | .bl _, C, e, h, X, ad, N, G, k, xf, pos => nomatch h
  | .int _, C, e, h, X, ad, N, G, k, xf, pos => nomatch h
  | .str _, C, e, h, X, ad, N, G, k, xf, pos => nomatch h
  | .glo _, C, e, h, X, ad, N, G, k, xf, pos => nomatch h
  | .fnv _, C, e, h, X, ad, N, G, k, xf, pos => nomatch h
  | .nil, C, e, h, X, ad, N, G, k, xf, pos => nomatch h
  | .scons _ _, C, e, h, X, ad, N, G, k, xf, pos => nomatch h
  | .bin _ _ _, C, e, h, X, ad, N, G, k, xf, pos => nomatch h
  | .neg _, C, e, h, X, ad, N, G, k, xf, pos => nomatch h
  | .cmp _ _ _, C, e, h, X, ad, N, G, k, xf, pos => nomatch h
  | .cmp2 _ _ _ _ _, C, e, h, X, ad, N, G, k, xf, pos => nomatch h
  | .isN _, C, e, h, X, ad, N, G, k, xf, pos => nomatch h
  | .notN _, C, e, h, X, ad, N, G, k, xf, pos => nomatch h
  | .and _, C, e, h, X, ad, N, G, k, xf, pos => nomatch h
  | .or _, C, e, h, X, ad, N, G, k, xf, pos => nomatch h
  | .not _, C, e, h, X, ad, N, G, k, xf, pos => nomatch h
  | .ife _ _ _, C, e, h, X, ad, N, G, k, xf, pos => nomatch h
  | .tup _, C, e, h, X, ad, N, G, k, xf, pos => nomatch h
  | .lst _, C, e, h, X, ad, N, G, k, xf, pos => nomatch h
  | .dicE _, C, e, h, X, ad, N, G, k, xf, pos => nomatch h
  | .call _ _, C, e, h, X, ad, N, G, k, xf, pos => nomatch h
  | .callv _ _, C, e, h, X, ad, N, G, k, xf, pos => nomatch h
  | .blt _ _, C, e, h, X, ad, N, G, k, xf, pos => nomatch h
  | .isi _ _, C, e, h, X, ad, N, G, k, xf, pos => nomatch h
  | .meth _ _ _, C, e, h, X, ad, N, G, k, xf, pos => nomatch h
  | .ix _ _, C, e, h, X, ad, N, G, k, xf, pos => nomatch h
  | .sl _ _ _, C, e, h, X, ad, N, G, k, xf, pos => nomatch h
  | .rev _, C, e, h, X, ad, N, G, k, xf, pos => nomatch h
  | .rng _, C, e, h, X, ad, N, G, k, xf, pos => nomatch h
  | .enum _, C, e, h, X, ad, N, G, k, xf, pos => nomatch h
  | .zip _ _, C, e, h, X, ad, N, G, k, xf, pos => nomatch h
  | .items _, C, e, h, X, ad, N, G, k, xf, pos => nomatch h
  | .vals _, C, e, h, X, ad, N, G, k, xf, pos => nomatch h
  | .rvd _, C, e, h, X, ad, N, G, k, xf, pos => nomatch h
  | .lc _ _ _ _, C, e, h, X, ad, N, G, k, xf, pos => nomatch h
  | .lc2 _ _ _ _ _ _ _, C, e, h, X, ad, N, G, k, xf, pos => nomatch h
  | .dc _ _ _ _ _ _, C, e, h, X, ad, N, G, k, xf, pos => nomatch h
  | .dpop _, C, e, h, X, ad, N, G, k, xf, pos => nomatch h
  | .dlen _, C, e, h, X, ad, N, G, k, xf, pos => nomatch h
  | .fstr _, C, e, h, X, ad, N, G, k, xf, pos => nomatch h
  | .lrev _, C, e, h, X, ad, N, G, k, xf, pos => nomatch h
  | .dead, C, e, h, X, ad, N, G, k, xf, pos => nomatch h
theorem ckL_snd : ∀ (c : CE) (C : Ct) (es : List Expr), ckL c C es = true → ∀ {X : Cx} {ad : Option Addr} {N : En} {G : Cfg} {k : Nat} (xf : XF X ad N G k C), PA X es (tA (gd X ad) N (evL G c))
  | .nil, C, es, h, X, ad, N, G, k, xf => by
    rw [ckL, List.isEmpty_iff] at h
    subst h
    exact a_nil
  | .cons c cs, C, es, h, X, ad, N, G, k, xf => by
    match es, h with
    | [], h => cases h
    | e :: es, h =>
      have h : (!isStar e && ckE c C e && ckL cs C es) = true := h
      simp only [Bool.and_eq_true, Bool.not_eq_true'] at h
      exact a_cons (ea := evE G c false) (el := evL G cs) (ckE_snd c C e h.1.2 xf false) (ckL_snd cs C es h.2 xf) (star_cons h.1.1)
  | .var _, C, e, h, X, ad, N, G, k, xf => nomatch h
  | .non, C, e, h, X, ad, N, G, k, xf => nomatch h
  | .bl _, C, e, h, X, ad, N, G, k, xf => nomatch h
  | .int _, C, e, h, X, ad, N, G, k, xf => nomatch h
  | .str _, C, e, h, X, ad, N, G, k, xf => nomatch h
  | .glo _, C, e, h, X, ad, N, G, k, xf => nomatch h
  | .fnv _, C, e, h, X, ad, N, G, k, xf => nomatch h
  | .scons _ _, C, e, h, X, ad, N, G, k, xf => nomatch h
  | .bin _ _ _, C, e, h, X, ad, N, G, k, xf => nomatch h
  | .neg _, C, e, h, X, ad, N, G, k, xf => nomatch h
  | .cmp _ _ _, C, e, h, X, ad, N, G, k, xf => nomatch h
  | .cmp2 _ _ _ _ _, C, e, h, X, ad, N, G, k, xf => nomatch h
  | .isN _, C, e, h, X, ad, N, G, k, xf => nomatch h
  | .notN _, C, e, h, X, ad, N, G, k, xf => nomatch h
  | .and _, C, e, h, X, ad, N, G, k, xf => nomatch h
  | .or _, C, e, h, X, ad, N, G, k, xf => nomatch h
  | .not _, C, e, h, X, ad, N, G, k, xf => nomatch h
  | .ife _ _ _, C, e, h, X, ad, N, G, k, xf => nomatch h
  | .tup _, C, e, h, X, ad, N, G, k, xf => nomatch h
  | .lst _, C, e, h, X, ad, N, G, k, xf => nomatch h
  | .dicE _, C, e, h, X, ad, N, G, k, xf => nomatch h
  | .call _ _, C, e, h, X, ad, N, G, k, xf => nomatch h
  | .callv _ _, C, e, h, X, ad, N, G, k, xf => nomatch h
  | .blt _ _, C, e, h, X, ad, N, G, k, xf => nomatch h
  | .isi _ _, C, e, h, X, ad, N, G, k, xf => nomatch h
  | .meth _ _ _, C, e, h, X, ad, N, G, k, xf => nomatch h
  | .ix _ _, C, e, h, X, ad, N, G, k, xf => nomatch h
  | .sl _ _ _, C, e, h, X, ad, N, G, k, xf => nomatch h
  | .rev _, C, e, h, X, ad, N, G, k, xf => nomatch h
  | .rng _, C, e, h, X, ad, N, G, k, xf => nomatch h
  | .enum _, C, e, h, X, ad, N, G, k, xf => nomatch h
  | .zip _ _, C, e, h, X, ad, N, G, k, xf => nomatch h
  | .items _, C, e, h, X, ad, N, G, k, xf => nomatch h
  | .vals _, C, e, h, X, ad, N, G, k, xf => nomatch h
  | .rvd _, C, e, h, X, ad, N, G, k, xf => nomatch h
  | .lc _ _ _ _, C, e, h, X, ad, N, G, k, xf => nomatch h
  | .lc2 _ _ _ _ _ _ _, C, e, h, X, ad, N, G, k, xf => nomatch h
  | .dc _ _ _ _ _ _, C, e, h, X, ad, N, G, k, xf => nomatch h
  | .dpop _, C, e, h, X, ad, N, G, k, xf => nomatch h
  | .dlen _, C, e, h, X, ad, N, G, k, xf => nomatch h
  | .fstr _, C, e, h, X, ad, N, G, k, xf => nomatch h
  | .lrev _, C, e, h, X, ad, N, G, k, xf => nomatch h
  | .dead, C, e, h, X, ad, N, G, k, xf => nomatch h
theorem ckLp_snd : ∀ (c : CE) (C : Ct) (es : List Expr), ckLp c C es = true → ∀ {X : Cx} {ad : Option Addr} {N : En} {G : Cfg} {k : Nat} (xf : XF X ad N G k C), PA X es (tAp (gd X ad) N (evLp G c))
  | .nil, C, es, h, X, ad, N, G, k, xf => by
    rw [ckLp, List.isEmpty_iff] at h
    subst h
    exact ap_nil
  | .cons c cs, C, es, h, X, ad, N, G, k, xf => by
    match es, h with
    | [], h => cases h
    | e :: es, h =>
      have h : (!isStar e && ckE c C e && ckLp cs C es) = true := h
      simp only [Bool.and_eq_true, Bool.not_eq_true'] at h
      exact ap_cons (ea := evE G c true) (el := evLp G cs) (ckE_snd c C e h.1.2 xf true) (ckLp_snd cs C es h.2 xf) (star_cons h.1.1)
  | .var _, C, e, h, X, ad, N, G, k, xf => nomatch h
  | .non, C, e, h, X, ad, N, G, k, xf => nomatch h
  | .bl _, C, e, h, X, ad, N, G, k, xf => nomatch h
  | .int _, C, e, h, X, ad, N, G, k, xf => nomatch h
  | .str _, C, e, h, X, ad, N, G, k, xf => nomatch h
  | .glo _, C, e, h, X, ad, N, G, k, xf => nomatch h
  | .fnv _, C, e, h, X, ad, N, G, k, xf => nomatch h
  | .scons _ _, C, e, h, X, ad, N, G, k, xf => nomatch h
  | .bin _ _ _, C, e, h, X, ad, N, G, k, xf => nomatch h
  | .neg _, C, e, h, X, ad, N, G, k, xf => nomatch h
  | .cmp _ _ _, C, e, h, X, ad, N, G, k, xf => nomatch h
  | .cmp2 _ _ _ _ _, C, e, h, X, ad, N, G, k, xf => nomatch h
  | .isN _, C, e, h, X, ad, N, G, k, xf => nomatch h
  | .notN _, C, e, h, X, ad, N, G, k, xf => nomatch h
  | .and _, C, e, h, X, ad, N, G, k, xf => nomatch h
  | .or _, C, e, h, X, ad, N, G, k, xf => nomatch h
  | .not _, C, e, h, X, ad, N, G, k, xf => nomatch h
  | .ife _ _ _, C, e, h, X, ad, N, G, k, xf => nomatch h
  | .tup _, C, e, h, X, ad, N, G, k, xf => nomatch h
  | .lst _, C, e, h, X, ad, N, G, k, xf => nomatch h
  | .dicE _, C, e, h, X, ad, N, G, k, xf => nomatch h
  | .call _ _, C, e, h, X, ad, N, G, k, xf => nomatch h
  | .callv _ _, C, e, h, X, ad, N, G, k, xf => nomatch h
  | .blt _ _, C, e, h, X, ad, N, G, k, xf => nomatch h
  | .isi _ _, C, e, h, X, ad, N, G, k, xf => nomatch h
  | .meth _ _ _, C, e, h, X, ad, N, G, k, xf => nomatch h
  | .ix _ _, C, e, h, X, ad, N, G, k, xf => nomatch h
  | .sl _ _ _, C, e, h, X, ad, N, G, k, xf => nomatch h
  | .rev _, C, e, h, X, ad, N, G, k, xf => nomatch h
  | .rng _, C, e, h, X, ad, N, G, k, xf => nomatch h
  | .enum _, C, e, h, X, ad, N, G, k, xf => nomatch h
  | .zip _ _, C, e, h, X, ad, N, G, k, xf => nomatch h
  | .items _, C, e, h, X, ad, N, G, k, xf => nomatch h
  | .vals _, C, e, h, X, ad, N, G, k, xf => nomatch h
  | .rvd _, C, e, h, X, ad, N, G, k, xf => nomatch h
  | .lc _ _ _ _, C, e, h, X, ad, N, G, k, xf => nomatch h
  | .lc2 _ _ _ _ _ _ _, C, e, h, X, ad, N, G, k, xf => nomatch h
  | .dc _ _ _ _ _ _, C, e, h, X, ad, N, G, k, xf => nomatch h
  | .dpop _, C, e, h, X, ad, N, G, k, xf => nomatch h
  | .dlen _, C, e, h, X, ad, N, G, k, xf => nomatch h
  | .fstr _, C, e, h, X, ad, N, G, k, xf => nomatch h
  | .lrev _, C, e, h, X, ad, N, G, k, xf => nomatch h
  | .dead, C, e, h, X, ad, N, G, k, xf => nomatch h
theorem ckO_snd : ∀ (c : CE) (C : Ct) (e : Option Expr), ckO c C e = true → ∀ {X : Cx} {ad : Option Addr} {N : En} {G : Cfg} {k : Nat} (xf : XF X ad N G k C), PO X e (tO (gd X ad) N (evO G c))
  | .nil, C, e, h, X, ad, N, G, k, xf => by
    rw [ckO, Option.isNone_iff_eq_none] at h
    subst h
    exact o_none
  | .cons c cs, C, e, h, X, ad, N, G, k, xf => by
    match e, h with
    | none, h => cases h
    | some e, h =>
      have h : (isNil cs && ckE c C e) = true := h
      rw [Bool.and_eq_true] at h
      obtain rfl := isNil_eq h.1
      exact o_some (ea := evE G c true) (ckE_snd c C e h.2 xf true)
  | .var _, C, e, h, X, ad, N, G, k, xf => nomatch h
  | .non, C, e, h, X, ad, N, G, k, xf => nomatch h
  | .bl _, C, e, h, X, ad, N, G, k, xf => nomatch h
  | .int _, C, e, h, X, ad, N, G, k, xf => nomatch h
  | .str _, C, e, h, X, ad, N, G, k, xf => nomatch h
  | .glo _, C, e, h, X, ad, N, G, k, xf => nomatch h
  | .fnv _, C, e, h, X, ad, N, G, k, xf => nomatch h
  | .scons _ _, C, e, h, X, ad, N, G, k, xf => nomatch h
  | .bin _ _ _, C, e, h, X, ad, N, G, k, xf => nomatch h
  | .neg _, C, e, h, X, ad, N, G, k, xf => nomatch h
  | .cmp _ _ _, C, e, h, X, ad, N, G, k, xf => nomatch h
  | .cmp2 _ _ _ _ _, C, e, h, X, ad, N, G, k, xf => nomatch h
  | .isN _, C, e, h, X, ad, N, G, k, xf => nomatch h
  | .notN _, C, e, h, X, ad, N, G, k, xf => nomatch h
  | .and _, C, e, h, X, ad, N, G, k, xf => nomatch h
  | .or _, C, e, h, X, ad, N, G, k, xf => nomatch h
  | .not _, C, e, h, X, ad, N, G, k, xf => nomatch h
  | .ife _ _ _, C, e, h, X, ad, N, G, k, xf => nomatch h
  | .tup _, C, e, h, X, ad, N, G, k, xf => nomatch h
  | .lst _, C, e, h, X, ad, N, G, k, xf => nomatch h
  | .dicE _, C, e, h, X, ad, N, G, k, xf => nomatch h
  | .call _ _, C, e, h, X, ad, N, G, k, xf => nomatch h
  | .callv _ _, C, e, h, X, ad, N, G, k, xf => nomatch h
  | .blt _ _, C, e, h, X, ad, N, G, k, xf => nomatch h
  | .isi _ _, C, e, h, X, ad, N, G, k, xf => nomatch h
  | .meth _ _ _, C, e, h, X, ad, N, G, k, xf => nomatch h
  | .ix _ _, C, e, h, X, ad, N, G, k, xf => nomatch h
  | .sl _ _ _, C, e, h, X, ad, N, G, k, xf => nomatch h
  | .rev _, C, e, h, X, ad, N, G, k, xf => nomatch h
  | .rng _, C, e, h, X, ad, N, G, k, xf => nomatch h
  | .enum _, C, e, h, X, ad, N, G, k, xf => nomatch h
  | .zip _ _, C, e, h, X, ad, N, G, k, xf => nomatch h
  | .items _, C, e, h, X, ad, N, G, k, xf => nomatch h
  | .vals _, C, e, h, X, ad, N, G, k, xf => nomatch h
  | .rvd _, C, e, h, X, ad, N, G, k, xf => nomatch h
  | .lc _ _ _ _, C, e, h, X, ad, N, G, k, xf => nomatch h
  | .lc2 _ _ _ _ _ _ _, C, e, h, X, ad, N, G, k, xf => nomatch h
  | .dc _ _ _ _ _ _, C, e, h, X, ad, N, G, k, xf => nomatch h
  | .dpop _, C, e, h, X, ad, N, G, k, xf => nomatch h
  | .dlen _, C, e, h, X, ad, N, G, k, xf => nomatch h
  | .fstr _, C, e, h, X, ad, N, G, k, xf => nomatch h
  | .lrev _, C, e, h, X, ad, N, G, k, xf => nomatch h
  | .dead, C, e, h, X, ad, N, G, k, xf => nomatch h
theorem ckI_snd : ∀ (c : CE) (C : Ct) (tg e : Expr), ckI c C e = true → ∀ {X : Cx} {ad : Option Addr} {N : En} {G : Cfg} {k : Nat} (xf : XF X ad N G k C) (pk : Bool), PI X tg e (tI (gd X ad) N pk (evI G c pk))
  | .rng es, C, tg, e, h, X, ad, N, G, k, xf, pk => by
    rw [ckI] at h
    split at h
    · rename_i n ls p q
      obtain rfl := vCall_inv q
      split at h
      · rename_i x p2 q2
        obtain rfl := vName_inv q2
        simp only [Bool.and_eq_true, decide_eq_true_eq, Bool.or_eq_true] at h
        obtain ⟨⟨⟨⟨⟨rfl, h2⟩, h3⟩, h4⟩, h5⟩, h6⟩ := h
        obtain ⟨g1, g2⟩ := blt_of xf h2
        have ih := ckLp_snd es C ls h6 xf
        cases ls with
        | nil => rcases h4 with h4 | h4 <;> cases h4
        | cons a1 t =>
          rw [List.all_cons, Bool.and_eq_true] at h3
          cases t with
          | nil => exact i_rng1 (el := evLp G es) g1 g2 ih (fun env dr ds dr' e => evLp_len h5 e) (star_cons (by simpa using h3.1))
          | cons a2 t =>
            rw [List.all_cons, Bool.and_eq_true] at h3
            cases t with
            | nil => exact i_rng2 (el := evLp G es) g1 g2 ih (fun env dr ds dr' e => evLp_len h5 e) (by rw [star_cons (by simpa using h3.1), star_cons (by simpa using h3.2.1)]; rfl) (star_cons (by simpa using h3.2.1))
            | cons a3 t => rcases h4 with h4 | h4 <;> simp at h4
      · cases h
    · cases h
  | .cons c cs, C, tg, e, h, X, ad, N, G, k, xf, pk => by
    rw [ckI, Bool.and_eq_true] at h
    obtain rfl := isNil_eq h.1
    exact i_seq (ea := evE G c pk) (ckE_snd c C e h.2 xf pk)
  | .dead, C, tg, e, h, X, ad, N, G, k, xf, pk => dead_I fun _ _ => rfl
  | .var _, C, tg, e, h, X, ad, N, G, k, xf, pk => nomatch h
  | .non, C, tg, e, h, X, ad, N, G, k, xf, pk => nomatch h
  | .bl _, C, tg, e, h, X, ad, N, G, k, xf, pk => nomatch h
  | .int _, C, tg, e, h, X, ad, N, G, k, xf, pk => nomatch h
  | .str _, C, tg, e, h, X, ad, N, G, k, xf, pk => nomatch h
  | .glo _, C, tg, e, h, X, ad, N, G, k, xf, pk => nomatch h
  | .fnv _, C, tg, e, h, X, ad, N, G, k, xf, pk => nomatch h
  | .nil, C, tg, e, h, X, ad, N, G, k, xf, pk => nomatch h
  | .scons _ _, C, tg, e, h, X, ad, N, G, k, xf, pk => nomatch h
  | .bin _ _ _, C, tg, e, h, X, ad, N, G, k, xf, pk => nomatch h
  | .neg _, C, tg, e, h, X, ad, N, G, k, xf, pk => nomatch h
  | .cmp _ _ _, C, tg, e, h, X, ad, N, G, k, xf, pk => nomatch h
  | .cmp2 _ _ _ _ _, C, tg, e, h, X, ad, N, G, k, xf, pk => nomatch h
  | .isN _, C, tg, e, h, X, ad, N, G, k, xf, pk => nomatch h
  | .notN _, C, tg, e, h, X, ad, N, G, k, xf, pk => nomatch h
  | .and _, C, tg, e, h, X, ad, N, G, k, xf, pk => nomatch h
  | .or _, C, tg, e, h, X, ad, N, G, k, xf, pk => nomatch h
  | .not _, C, tg, e, h, X, ad, N, G, k, xf, pk => nomatch h
  | .ife _ _ _, C, tg, e, h, X, ad, N, G, k, xf, pk => nomatch h
  | .tup _, C, tg, e, h, X, ad, N, G, k, xf, pk => nomatch h
  | .lst _, C, tg, e, h, X, ad, N, G, k, xf, pk => nomatch h
  | .dicE _, C, tg, e, h, X, ad, N, G, k, xf, pk => nomatch h
  | .call _ _, C, tg, e, h, X, ad, N, G, k, xf, pk => nomatch h
  | .callv _ _, C, tg, e, h, X, ad, N, G, k, xf, pk => nomatch h
  | .blt _ _, C, tg, e, h, X, ad, N, G, k, xf, pk => nomatch h
  | .isi _ _, C, tg, e, h, X, ad, N, G, k, xf, pk => nomatch h
  | .meth _ _ _, C, tg, e, h, X, ad, N, G, k, xf, pk => nomatch h
  | .ix _ _, C, tg, e, h, X, ad, N, G, k, xf, pk => nomatch h
  | .sl _ _ _, C, tg, e, h, X, ad, N, G, k, xf, pk => nomatch h
  | .rev _, C, tg, e, h, X, ad, N, G, k, xf, pk => nomatch h
  | .enum _, C, tg, e, h, X, ad, N, G, k, xf, pk => nomatch h
  | .zip _ _, C, tg, e, h, X, ad, N, G, k, xf, pk => nomatch h
  | .items _, C, tg, e, h, X, ad, N, G, k, xf, pk => nomatch h
  | .vals _, C, tg, e, h, X, ad, N, G, k, xf, pk => nomatch h
  | .rvd _, C, tg, e, h, X, ad, N, G, k, xf, pk => nomatch h
  | .lc _ _ _ _, C, tg, e, h, X, ad, N, G, k, xf, pk => nomatch h
  | .lc2 _ _ _ _ _ _ _, C, tg, e, h, X, ad, N, G, k, xf, pk => nomatch h
  | .dc _ _ _ _ _ _, C, tg, e, h, X, ad, N, G, k, xf, pk => nomatch h
  | .dpop _, C, tg, e, h, X, ad, N, G, k, xf, pk => nomatch h
  | .dlen _, C, tg, e, h, X, ad, N, G, k, xf, pk => nomatch h
  | .fstr _, C, tg, e, h, X, ad, N, G, k, xf, pk => nomatch h
  | .lrev _, C, tg, e, h, X, ad, N, G, k, xf, pk => nomatch h
end
end Cr
/-! A def that is called within an except suite with the caught error. -/
namespace Cr
open PySem PySem.Spec PyProof.Rows L2 L2H

/-- a def's promise for the one caught error z -/
structure FnP (P : Program) (w : World) (K : PySem.W.Frag) (mg : Str → Option Value) (base : Heap) (CX : CXT) (k : Nat) (f : Addr) (fd : FuncData) (ps : List Str) (z : Addr × Obj) (sp : Sp) : Prop where
  go : ∀ (A : Around) (fr : List PySem.Env) (s : Shared) (H : Hp) (ag : Args) (us : List Value) (vs : List V) (Q : VK) (E : XK), RoomH k A → Hot1 A z → PinOk fr H s z → Env0 P w K mg base A fr s H → BindsTo s fd ag (ps.zip us) → vs.length = ps.length → Vals vs us → sp vs H Q E →
    codeAny (model P w) A (.call (.ref f) ag) (CR CX fr P w H s Q E) s
theorem fnP_of {CX : CXT} {P : Program} {w : World} {K : PySem.W.Frag} {mg : Str → Option Value} {base : Heap} {k : Nat} {x q : Str} {pr : Arguments} {bd : List Stmt} {sc : Scope} {f : Addr} {fd : FuncData} {N ps : List Str} {sp : Sp} {z : Addr × Obj}
    (F : FunD K x q pr bd sc [] [] f fd) (S : FnScope N ps sc)
    (body : ∀ (cd : Value) (A : Around) (fr : List PySem.Env) (s : Shared) (H : Hp) (vs : List V) (Q : VK) (E : XK), Hot1 A z → RoomH k (A.deeper (envOfC q sc s.heap.objs.size f cd)) → sp vs H Q E →
      ∃ t, PSs (cxH CX P w K mg base N q sc f cd A fr s H E z) bd t ∧ t { nx := fun _ H' => Q .non H', rt := Q } (L2.start N vs) H) : FnP P w K mg base CX (k + 1) f fd ps z sp := by
  obtain ⟨oc, od, dV, kV, doc, pm, an, cd, ct, osl, rfl, lk, hcd, _, _⟩ := F.ex
  refine ⟨fun A fr s H ag us vs Q E hr hot hz e0 hb hl r hsp => ?_⟩
  have KX : K.In s.heap := e0.mod.kin.keeps fun a o e => (e0.bs a o e).1
  have lim := e0.mod.nolimit.keeps fun a o e => (e0.bs a o e).1
  have hkind : ∀ y ∈ ps.zip us, sc.names.lookup y.1 = some .local ∨ (sc.names.lookup y.1 = some .cell ∧ ((cellsFrom (s.heap.objs.size + 1) sc.names []).lookup y.1).isSome = true) := fun ⟨n, v⟩ hy =>
    (S.par n (List.of_mem_zip hy).1).imp id fun c => ⟨c, PySem.W.cellsFrom_some _ _ _ (.inl c)⟩
  refine codeAny_call_function hr.depth (KX _ _ lk) rfl S.co S.gen rfl (PySem.W.codeRec_of KX hcd) (hb _ _ _ _ (wpAny_newFunctionEnv_cells S.kind hkind fun env he s1 y => ?_))
  subst he
  refine ⟨lim.keeps y.toInCall.keep, codeAny_func ?_⟩
  obtain ⟨t, ht, hq⟩ := body cd A fr s H vs Q E hot (hr.deeper _) hsp
  have J : Inv (cxH CX P w K mg base N q sc f cd A fr s H E z) [] (L2.start N vs) H s1 := inv_startH S hz e0 hl r y
  refine wpAny_mono (ht.run [] s1 (L2.start N vs) H _ J hq) (fun fl s2 hs => ?_) fun e s2 hs => hs
  cases fl with
  | ret u =>
    obtain ⟨v, σ2, H2, J2, rv, q2⟩ := hs
    exact ⟨v, H2, J2.os, J2.bare, J2.base, J2.hok, rv, q2⟩
  | next =>
    obtain ⟨σ2, H2, J2, q2⟩ := hs
    exact ⟨.non, H2, J2.os, J2.bare, J2.base, J2.hok, rfl, q2⟩
  | brk => exact hs.elim fun _ h => h.elim fun _ h => h.2.elim
  | cont => exact hs.elim fun _ h => h.elim fun _ h => h.2.elim
section
variable {X : Cx} {CX : CXT} {k : Nat} {f : Addr} {fd : FuncData} {ps : List Str} {sp : Sp} {E : L2.St → XK} {x : Str} {q pos : Pos} {e : Expr} {es : List Expr} {t : TA} {z : Addr × Obj}
theorem pe_callP (F : FnP X.prog X.w X.K X.mg X.base CX k f fd ps z sp) (hr : RoomH k X.A) (hot : Hot1 X.A z) (hz : z ∈ X.pn) (hg : Gl X x) (hm : X.mg x = some (.ref f)) (hk : PySem.W.keepIn X.K (.ref f) = true) (hb : Binds X.K fd ps []) (hx : ∀ σ, PassesAt CX X σ (E σ))
    (ha : PA X (e :: es) t) (hdb : (x == ("__debug__" : Str)) = false) (he : starEach (e :: es) X.env = (false, eval e X.env) :: starEach es X.env) (hpl : (backTo pos (starEach es X.env)).any (·.1) = false) :
    PE X (.Call (.Name x q) (e :: es) [] pos) (fun σ H Q => t σ H fun vs H1 => vs.length = ps.length ∧ sp vs H1 Q (E σ)) := by
  refine ⟨fun pins s σ H Q I h => wpAny_Call_Name_kw (ld_glob I hg hm ?_ hdb)⟩
  refine PySem.W.callWith_K (h₀ := X.base) I.ok.mod.kin hk (thn (ha.run pos pins s σ H _ I h) fun us s1 ⟨vs, H1, I1, r, hl, h1⟩ => ⟨I1.kIn, ?_⟩) he hpl
  have b := hb s1 us I1.kIn (by rw [List.append_nil, ← r.length]; exact hl)
  rw [List.append_nil] at b
  obtain ⟨p1, p2, p3, p4, p5⟩ := I1.pin z (List.mem_append_left _ hz)
  refine wpAny_call (codeAny_mono (F.go X.A X.stack s1 H1 ⟨us, []⟩ us vs Q (E σ) hr hot ⟨p1, p2, fun h => (List.mem_cons.mp (I1.stkSub z.1 h)).elim p3 p4, p5⟩ I1.env0 b hl r h1) fun rr s2 hq => ?_)
  match rr, hq with
  | .error e, hq => exact hx σ pins H1 s1 e s2 I1 hq
  | .ok (.ret u), hq => exact I1.after hq
  | .ok .next, hq => exact hq.elim
  | .ok .brk, hq => exact hq.elim
  | .ok .cont, hq => exact hq.elim
/-- isinstance of the pinned error -/
theorem isE_pin {a D : Addr} {ob : Obj} (C : ExcC X.K D) (hz : Zc (.ref D) none ob) (hf : ∃ vs, ob.data = .fields vs) (hp : (a, ob) ∈ X.pn) : CallR X (.builtin "isinstance") (rIsE X.K D a) := by
  intro pins s σ H xs us Q I r ⟨c, cv, b, ex, hcv, e, h⟩
  subst ex
  match us, r with
  | [_, u], .cons rx (.cons rt .nil) =>
    cases rx
    obtain rfl := hcv u rt
    have hget := (I.pin (a, ob) (List.mem_append_left _ hp)).1
    obtain ⟨vs, hv⟩ := hf
    have J : PySem.W.InstAt s.heap a ob D none := by
      obtain ⟨c1, d1, dt, sl⟩ := ob
      obtain ⟨h1, h2⟩ := hz
      cases (show c1 = _ from h1)
      cases (show d1 = _ from h2)
      cases (show dt = _ from hv)
      exact ⟨hget, rfl, rfl, trivial⟩
    exact PySem.W.kia_one (PySem.W.handS_kitx_exc C.hg C.hk C.hs C.hd C.ha C.hn C.ht C.hm) I.kIn J e (fun z => nomatch z) fun tk => ⟨.bl b, H, I.kept (t' := tk) fun _ _ z => z, rfl, h⟩
end
/-! ### flags of a caught error: [isinstance(e, A), isinstance(e, B), ..] -/
/-- the text's classes -/
def flNames (x : Str) : List Expr → Option (List Str)
  | [] => some []
  | e :: es => match vCall e with
    | some (n, [l, r], [], _) => (match vName n, vName l, vName r, flNames x es with
      | some (i, _), some (y, _), some (c, _), some cs => if i = ("isinstance" : Str) ∧ y = x then some (c :: cs) else none
      | _, _, _, _ => none)
    | _ => none
/-- the def's one row -/
def flBody (x : Str) : List Stmt → Option (List Str)
  | [s] => match wReturn s with
    | some (some e, _) => (match vList e with
      | some (es, _) => flNames x es
      | none => none)
    | _ => none
  | _ => none
/-- what is asked of the classes -/
def kits (K : PySem.W.Frag) (mg : Str → Option Value) (D : Addr) : List Str → List Bool → Prop
  | [], bs => bs = []
  | c :: cs, bs => ∃ b r C, bs = b :: r ∧ mg c = some (.ref C) ∧ PySem.W.kitOne K (.ref D) (.ref C) = some b ∧ kits K mg D cs r
def spFl (a : Addr) (bs : List Bool) : Sp := fun vs H Q _ => vs = [.ref a] ∧ ∀ p, H p = none → Q (.ref p) (upd H p (.lst (bs.map .bl)))
section
variable {X : Cx} {a D : Addr} {ob : Obj} {x : Str} {sc : Scope}
theorem fl_args (C : ExcC X.K D) (hz : Zc (.ref D) none ob) (hf : ∃ vs, ob.data = .fields vs) (hp : (a, ob) ∈ X.pn) (hv : ∀ p, PE X (.Name x p) (fun σ H Q => σ = [some (.ref a)] ∧ Q (.ref a) H)) (gi : Gl X "isinstance") (mi : X.mg "isinstance" = none) :
    ∀ (es : List Expr) (cs : List Str) (bs : List Bool), flNames x es = some cs → kits X.K X.mg D cs bs → (∀ c ∈ cs, Gl X c ∧ (c == ("__debug__" : Str)) = false) → PA X es (fun σ H Q => σ = [some (.ref a)] ∧ Q (bs.map .bl) H)
  | [], cs, bs, h, hk, _ => by
    cases h
    cases (show bs = [] from hk)
    exact PAw' pa_nil fun σ H Q h => h.2
  | e :: es, cs, bs, h, hk, hg => by
    have ih0 := fl_args C hz hf hp hv gi mi es
    unfold flNames at h
    split at h
    · rename_i n l r p q
      obtain rfl := vCall_inv q
      split at h
      · rename_i i p1 y p2 c p3 cs' q1 q2 q3 q4
        obtain rfl := vName_inv q1
        obtain rfl := vName_inv q2
        obtain rfl := vName_inv q3
        split at h
        · rename_i hh
          obtain ⟨rfl, rfl⟩ := hh
          cases h
          obtain ⟨b, r, C', rfl, e1, e2, e3⟩ := hk
          have ih := ih0 cs' r q4 e3 fun c hc => hg c (List.mem_cons_of_mem _ hc)
          obtain ⟨g1, g2⟩ := hg c List.mem_cons_self
          refine PAw' (pa_cons (pe_callB (isE_pin C hz hf hp) gi mi (by decide +kernel) (pa_cons (hv p2) (pa_cons (pe_glob (v := .ref C') g1 e1 rfl g2) pa_nil))) ih) fun σ H Q ⟨h1, h2⟩ => ?_
          exact ⟨h1, .ref C', .ref C', b, rfl, fun u hu => hu, e2, h1, h2⟩
        · cases h
      · cases h
    · cases h
end
end Cr
/-! Statements held against the program's text. -/
namespace Cr
open PySem PySem.Spec PyProof.Rows L2 L2H

section
variable {X : Cx} {a D : Addr} {ob : Obj} {K : PySem.W.Frag}
theorem fl_ok {P : Program} {w : World} {mg : Str → Option Value} {base : Heap} {f x : Str} {pr : Arguments} {bd : List Stmt} {sc : Scope} {fa : Addr} {fd : FuncData} {cs : List Str} {bs : List Bool}
    (F : FunD K f f pr bd sc [] [] fa fd) (S : FnScope [x] [x] sc) (hb : flBody x bd = some cs) (C : ExcC K D) (hz : Zc (.ref D) none ob) (hf : ∃ vs, ob.data = .fields vs) (hk : kits K mg D cs bs)
    (gi : sc.names.lookup ("isinstance" : Str) = some .globalImplicit) (gc : ∀ c ∈ cs, sc.names.lookup c = some .globalImplicit ∧ (c == ("__debug__" : Str)) = false) (gx : visB sc x = true ∧ (x == ("__debug__" : Str)) = false ∧ (x == ("__classdict__" : Str)) = false) (mi : mg "isinstance" = none) (hl : bs.length ≤ sizeLine) :
    FnP P w K mg base (L2N.CX P w) 1 fa fd [x] (a, ob) (spFl a bs) := by
  refine fnP_of F S fun cd A fr s H vs Q E hot hr ⟨e1, hq⟩ => ?_
  subst e1
  match bd, hb, F with
  | [], hb, _ => cases hb
  | _ :: _ :: _, hb, _ => cases hb
  | [s0], hb0, F =>
    clear hb
    have hb : (match wReturn s0 with
      | some (some e, _) => (match vList e with
        | some (es, _) => flNames x es
        | none => none)
      | _ => none) = some cs := hb0
    clear hb0
    split at hb
    · rename_i e p q
      obtain rfl := wReturn_inv q
      split at hb
      · rename_i es p2 q2
        obtain rfl := vList_inv q2
        refine ⟨_, pss_cons (ps_ret (pe_lst (fl_args (X := cxH (L2N.CX P w) P w K mg base [x] f sc fa cd A fr s H E (a, ob)) (x := x) C hz hf (List.mem_singleton.mpr rfl) (fun p => PEw' (pe_var (i := 0) rfl (vis_of gx.1) gx.2.1 gx.2.2) fun σ H Q h => ?_) gi mi es cs bs hb hk gc))) pss_never, ?_⟩
        · obtain ⟨rfl, h⟩ := h
          exact ⟨.ref a, rfl, h⟩
        · exact ⟨rfl, by rw [List.length_map]; exact hl, fun p hp => hq p hp⟩
      · cases hb
    · cases hb
end
end Cr
namespace Cr
open PySem PySem.Spec PyProof.Rows L2 L2H

/-! ### the check of blocks -/
def isLc : CE → Bool
  | .lc .. => true
  | _ => false
def isFr : CE → Bool
  | .lc .. => true
  | .lst _ => true
  | .dicE _ => true
  | _ => false
/-- the comprehension's stores are exchanged -/
def swB (i : Nat) (C : Ct) (tg v : Expr) : Bool := match vName tg, vListComp v with
  | some (t, py), some (_, _, s, lp) => decide (C.N[i]? = some t) && decide (C.sc.names.lookup t = some .local) && decide (C.sc.kind = .function) && (py.line == lp.line) && !(s.names.any fun (n, k) => n == t && (k == .local || k == .cell))
  | _, _ => false
/-- a comprehension, but its stores are not exchanged -/
def noSw (C : Ct) (tg v : Expr) : Bool := !isComp v || (match vName tg with
  | some (t, _) => !decide (C.sc.names.lookup t = some .local)
  | none => true)
def rowB (tg v : Expr) : Bool := !isRow tg || (match vTuple v with
  | some (vs, _, _) => vs.all (foldedForSure 8)
  | none => true)
def starB : Expr → Bool
  | .Starred .. => true
  | _ => false
def isBrk : List Stmt → Bool
  | .Break _ :: _ => true
  | _ => false
def isCnt : List Stmt → Bool
  | .Continue _ :: _ => true
  | _ => false
theorem isBrk_eq {ss : List Stmt} (h : isBrk ss = true) : ∃ p r, ss = .Break p :: r := by
  unfold isBrk at h
  split at h
  · exact ⟨_, _, rfl⟩
  · cases h
theorem isCnt_eq {ss : List Stmt} (h : isCnt ss = true) : ∃ p r, ss = .Continue p :: r := by
  unfold isCnt at h
  split at h
  · exact ⟨_, _, rfl⟩
  · cases h
def ckB : CS → Ct → List Stmt → Bool
  | .done, _, ss => ss.isEmpty
  | .dead, _, _ => true
  | .frz _ k, C, ss => ckB k C ss
  | .ex e k, C, ss => (match ss with
    | s :: ss => (match wExpr s with
      | some (x, _) => !isComp x && ckE e C x && ckB k C ss
      | none => false)
    | [] => false)
  | .asg p e k, C, ss => (match ss with
    | s :: ss => (match wAssign s with
      | some ([tg], v, _) => (if noSw C tg v then !isStar tg && ckP p C tg && rowB tg v else (match p with
          | .nm i => swB i C tg v && isLc e
          | _ => false)) && ckE e C v && ckB k C ss
      | _ => false)
    | [] => false)
  | .own i e k, C, ss => (match ss with
    | s :: ss => (match wAssign s with
      | some ([tg], v, _) => (if noSw C tg v then isFr e && ckP (.nm i) C tg else swB i C tg v && isLc e) && ckE e C v && ckB k C ss
      | _ => false)
    | [] => false)
  | .par i j a b k, C, ss => (match ss with
    | s :: ss => (match wAssign s with
      | some ([tg], v, _) => (match vTuple tg, vTuple v with
        | some ([n1, n2], _, _), some ([e1, e2], _, _) => (match vName n1, vName n2 with
          | some (x, px), some (y, py) => decide (C.sc.kind = .function) && decide (C.N[i]? = some x) && decide (C.N[j]? = some y) && !decide (i = j) && !(x == y) && !(y == x) && decide (C.sc.names.lookup x = some .local) && decide (C.sc.names.lookup y = some .local) && (px.line == px.line) && (py.line == px.line) &&
              !isStar e1 && !isStar e2 && !([e1, e2].all (foldedForSure 8)) && !([e1, e2].all (constantsAlone 8)) && ckE a C e1 && ckE b C e2 && ckB k C ss
          | _, _ => false)
        | _, _ => false)
      | _ => false)
    | [] => false)
  | .ifs c a b k, C, ss => (match ss with
    | s :: ss => (match wIf s with
      | some (c', a', b', _) => ckT c C c' && ckB a C a' && ckB b C b' && ckB k C ss
      | none => false)
    | [] => false)
  | .for_ p it b k, C, ss => (match ss with
    | s :: ss => (match wFor s with
      | some (tg, it', b', [], _) => !isSet it' && ckP p C tg && ckI it C it' && ckB b C b' && ckB k C ss
      | _ => false)
    | [] => false)
  | .forD p i b k, C, ss => (match ss with
    | s :: ss => (match wFor s with
      | some (tg, it', b', [], _) => isVar i C it' && ckP p C tg && ckB b C b' && ckB k C ss
      | _ => false)
    | [] => false)
  | .app i e k, C, ss => (match ss with
    | s :: ss => (match wExpr s with
      | some (x, _) => (match vCall x with
        | some (n, [l], [], pos) => (match vAttribute n with
          | some (r, y, apos) => decide (y = ("append" : Str)) && (apos.endLine == pos.line) && isVar i C r && !isStar l && ckE e C l && ckB k C ss
          | none => false)
        | _ => false)
      | none => false)
    | [] => false)
  | .brk, _, ss => isBrk ss
  | .cnt, _, ss => isCnt ss
  | .ret e, C, ss => (match ss with
    | s :: _ => (match wReturn s with
      | some (some x, _) => ckE e C x
      | _ => false)
    | [] => false)
  | .ret0, _, ss => (match ss with
    | s :: _ => (match wReturn s with
      | some (none, _) => true
      | _ => false)
    | [] => false)
  | .rse x e, C, ss => (match ss with
    | s :: _ => (match wRaise s with
      | some (some r, none, _) => (match vCall r with
        | some (n, [m], [], _) => (match vName n, vConstant m with
          | some (y, _), some (.str _, _, _) => isNil e && decide (y = x) && gloB C x && C.exc.contains x
          | _, _ => false)
        | _ => false)
      | _ => false)
    | [] => false)
  | .tryF x f i b k, C, ss => (match ss with
    | s :: ss => (match wTry s with
      | some (b', [.ExceptHandler (some cl) (some n) [st] _], [], [], _) => (match vName cl, wReturn st with
        | some (y, _), some (some rv, _) => (match vCall rv with
          | some (g, [ar], [], _) => (match vName g, vName ar with
            | some (g', _), some (n', _) => decide (y = x) && gloB C x && C.tcl.contains x && decide (g' = f) && gloB C f && C.flg.contains f && decide (n' = n) && decide (C.N[i]? = some n) && decide (C.sc.names.lookup n = some .local) && !(n == ("__debug__" : Str)) && !(n == ("__classdict__" : Str)) &&
                ckB b C b' && ckB k C ss
            | _, _ => false)
          | _ => false)
        | _, _ => false)
      | _ => false)
    | [] => false)
  | _, _, _ => false

/-! ### where statements stand -/
structure XS (X : Cx) (ad : Option Addr) (N : En) (G : Cfg) (k : Nat) (C : Ct) : Prop extends XF X ad N G k C where
  one : 1 ≤ k
  raw : C.raw = none
  stk : X.stack = X.env :: X.outer
  frm : X.env.frame = some X.env.locals
  own : PassesOwn (model X.prog X.w) X.A X.env X.xe
  tk2 : L2N.Takes X N.W
  exc : ∀ x, C.exc.contains x = true → ∃ (Ca : Addr) (B n i : String) (bm : List Value), ExcBaseFacts B n i bm ∧ PySem.W.excIn X.K Ca bm n = true ∧ X.mg x = some (.ref Ca) ∧ PySem.W.keepIn X.K (.ref Ca) = true ∧ Raises X (.ref Ca)
  sub : ∀ x, C.tcl.contains x = true → ∃ c, (X.mg x = some c ∨ (X.mg x = none ∧ bootBuiltins x = some c ∧ x ≠ "__name__")) ∧ ∀ e b cls, G.sub e x = some b → X.mg e = some cls → PySem.W.exmOne X.K cls c = some b
  flg : ∀ f, C.flg.contains f = true → ∃ (fa : Addr) (fd : FuncData) (y : Str), X.mg f = some (.ref fa) ∧ PySem.W.keepIn X.K (.ref fa) = true ∧ Binds X.K fd [y] [] ∧ ∀ cls d D, G.flg f cls = some d → X.mg cls = some D → 1 ≤ k ∧ ∃ (Da : Addr) (bs : List Bool), D = .ref Da ∧ d = .lst (bs.map .bl) ∧ bs.length ≤ sizeLine ∧
    ∀ (a : Addr) (ob : Obj), Zc (.ref Da) none ob → (∃ vs, ob.data = .fields vs) → FnP X.prog X.w X.K X.mg X.base (L2N.CX X.prog X.w) 1 fa fd [y] (a, ob) (spFl a bs)
section
variable {X : Cx} {ad : Option Addr} {N : En} {G : Cfg} {k : Nat} {C : Ct}
theorem XS.tr (xs : XS X ad N G k C) {W : WX} {pn : List (Addr × Obj)} {xe : Value → Shared → Prop} (t : L2N.Takes (X.tr pn xe) W) (o : PassesOwn (model X.prog X.w) X.A X.env xe) : XS (X.tr pn xe) ad ⟨N.F0, N.H0, W⟩ G k C where
  calm := xs.calm
  nd := xs.nd
  eN := xs.eN
  sc := xs.sc
  room := xs.room
  fns := fun x n h => by
    obtain ⟨fn, e, g⟩ := xs.fns x n h
    exact ⟨fn, e, ⟨g.ex⟩⟩
  mgb := xs.mgb
  cons := xs.cons
  tk := fun σ => L2N.passAt t σ
  top := xs.top
  blk := xs.blk
  one := xs.one
  raw := xs.raw
  stk := xs.stk
  frm := xs.frm
  own := o
  tk2 := t
  exc := xs.exc
  sub := xs.sub
  flg := xs.flg
theorem XS.loc (xs : XS X ad N G k C) (x : Str) : X.fn x = true := xs.top xs.raw x
end
/-! ### side conditions -/
theorem swaps_no {env : PySem.Env} {v : Expr} {t : Option Expr} {l : Nat} (h : isComp v = false) : swapsWith v t l env = pure false := by
  cases v <;> first | rfl | cases h
theorem noSw_ok {C : Ct} {env : PySem.Env} {tg v : Expr} {l : Nat} (hs : env.scope = C.sc) (hst : isStar tg = false) (h : noSw C tg v = true) : swapsWith v (some tg) l env = pure false := by
  unfold noSw at h
  rw [Bool.or_eq_true] at h
  rcases h with h | h
  · exact swaps_no (by simpa using h)
  · cases q : vName tg with
    | none =>
      cases tg <;> first | (cases q; done) | (cases v <;> rfl)
    | some tt =>
      obtain ⟨t, p⟩ := tt
      obtain rfl := vName_inv q
      rw [q] at h
      have h : (!decide (C.sc.names.lookup t = some .local)) = true := h
      have h1 : ¬ C.sc.names.lookup t = some .local := by simpa using h
      have h2 : (env.kindOf t == some .local) = false := by
        show (env.scope.names.lookup t == some .local) = false
        rw [hs]
        simpa using h1
      have key : ∀ (b c : Bool), ((env.blockKind == .function && env.kindOf t == some .local && b) && c) = false := fun b c => by
        rw [h2]
        simp
      cases v <;> first | rfl | exact congrArg pure (key _ _)
theorem stores_no {env : PySem.Env} {tg v : Expr} (h : rowB tg v = true) : swappedStores [tg] v env = pure none := by
  unfold rowB at h
  rw [Bool.or_eq_true] at h
  rcases h with h | h
  · cases tg <;> first | rfl | cases h
  · cases v <;> first | (cases tg <;> rfl) | skip
    rename_i vs k p
    have h : vs.all (foldedForSure 8) = true := h
    cases tg <;> first | rfl | (unfold swappedStores; dsimp only; repeat' split) <;> first | rfl | (rw [if_pos h]; rfl) | (exfalso; contradiction)
theorem sole_asg {env : PySem.Env} {tg : Expr} (h : isStar tg = false) : (assignEach [tg] env).map (·.2) = [assign tg env] := by
  cases tg <;> first | rfl | cases h
end Cr
namespace Cr
open PySem PySem.Spec PyProof.Rows L2 L2H

theorem StR.frz {g : Gd} {F0 H0 F H : Hp} {dr : List Int} {σ : L2.St} {env : Env} {i : Nat} {d : D} (st : StR g F0 H0 σ env F H dr) (h : get env i = .own d) : ∃ F', Sub F F' ∧ StR g F0 H0 σ (env.set i (.val d)) F' H dr := by
  have sl := st.slot i
  rw [h] at sl
  obtain ⟨p, e, f, h0, n, r⟩ := sl
  obtain ⟨o, ho⟩ := r.there
  have hi : i < env.length := by
    by_cases hi : i < env.length
    · exact hi
    · unfold get at h
      rw [List.getD_eq_getElem?_getD, List.getElem?_eq_none (by omega)] at h
      cases h
  refine ⟨upd F p o, sub_upd f, st.po.frz h0 f n ho, by rw [List.length_set]; exact st.len, fun j => ?_, fun j l d' e' q h1 h2 h3 h4 => ?_⟩
  · rw [get_set]
    by_cases hj : i = j
    · subst hj
      rw [if_pos ⟨rfl, hi⟩]
      exact ⟨.ref p, e, r.rep (sub_upd f) fun o' z => by rw [ho] at z; cases z; exact upd_same⟩
    · rw [if_neg (fun z => hj z.1)]
      have s2 := st.slot j
      cases q : get env j with
      | no => trivial
      | val d2 =>
        rw [q] at s2
        obtain ⟨v, e2, r2⟩ := s2
        exact ⟨v, e2, Rep.mono (sub_upd f) _ _ r2⟩
      | own d2 =>
        rw [q] at s2
        obtain ⟨p2, e2, f2, h2, n2, r2⟩ := s2
        have hne : p2 ≠ p := fun z => by
          subst z
          exact hj (st.apart i j d d2 p2 h q e e2)
        exact ⟨p2, e2, by rw [upd_ne hne]; exact f2, h2, n2, r2.mono (sub_upd f) fun _ z => z⟩
  · rw [get_set] at h1 h2
    by_cases hj : i = j
    · rw [if_pos ⟨hj, hi⟩] at h1
      cases h1
    · by_cases hl : i = l
      · rw [if_pos ⟨hl, hi⟩] at h2
        cases h2
      · rw [if_neg (fun z => hj z.1)] at h1
        rw [if_neg (fun z => hl z.1)] at h2
        exact st.apart j l d' e' q h1 h2 h3 h4
theorem reps_bls {g : Gd} {F : Hp} : ∀ bs : List Bool, Reps g F (bs.map .bl) (bs.map .bl)
  | [] => rfl
  | b :: bs => Reps.cons rfl (reps_bls bs)
section
variable {X : Cx} {ad : Option Addr} {N : En} {pk : Bool} {pos : Pos} {e l r : Expr} {rest : List Stmt} {σ : L2.St} {H F : Hp} {env : Env} {dr : List Int} {D0 : Ends}
theorem post_up {D : Ends} {F F1 : Hp} {rr : Res Fl} (s : Sub F F1) (h : rr.post (FlP (gd X ad) N D F) (EXs (gd X ad) N)) : rr.post (FlP (gd X ad) N D F1) (EXs (gd X ad) N) := h.imp (fun f dr z => z.up s f dr) fun _ _ z => z
theorem s_frz {i : Nat} {ss : List Stmt} {ek : Env → List Int → Res Fl} (hk : PSs X ss (tS (gd X ad) N ek)) : PSs X ss (tS (gd X ad) N (fun env dr => (ofO ((frzS (get env i)).bind (setSl env i)) dr).bind fun env dr => ek env dr)) :=
  PSsw' hk fun D σ H ⟨env, F, dr, st, h⟩ => by
    obtain ⟨env', e1, k2⟩ := post_ofO (post_bind h)
    cases q : get env i with
    | no => rw [q] at e1; cases e1
    | val d =>
      rw [q] at e1
      have e2 : (if i < env.length then some (env.set i (.val d)) else none) = some env' := e1
      split at e2
      · rename_i hl
        cases e2
        have sl := st.slot i
        rw [q] at sl
        obtain ⟨v, e3, r⟩ := sl
        have st2 := st.setV hl r
        have hs : σ.set i (some v) = σ := by
          refine List.ext_getElem? fun j => ?_
          by_cases hj : i = j
          · subst hj
            rw [List.getElem?_set_self (by rw [st.len]; exact hl), e3]
          · rw [List.getElem?_set_ne hj]
        rw [hs] at st2
        exact ⟨_, F, dr, st2, k2⟩
      · cases e2
    | own d =>
      rw [q] at e1
      have e2 : (if i < env.length then some (env.set i (.val d)) else none) = some env' := e1
      split at e2
      · cases e2
        obtain ⟨F', s, st2⟩ := st.frz q
        exact ⟨_, F', dr, st2, post_up s k2⟩
      · cases e2
theorem s_par {i j : Nat} {x y : Str} {a b : Expr} {px py pt pt2 : Pos} {kt k2 : Nat} {ea eb : Env → List Int → Res D} {ek : Env → List Int → Res Fl} (hc : X.calm = true) (hN : X.N.Nodup) (hi : X.N[i]? = some x) (hj : X.N[j]? = some y) (hij : i ≠ j)
    (hx : X.env.scope.names.lookup x = some .local) (hy : X.env.scope.names.lookup y = some .local) (ha : PE X a (tM (gd X ad) N false ea)) (hb : PE X b (tM (gd X ad) N false eb)) (s1 : isStar a = false) (s2 : isStar b = false)
    (hw : swappedStores [.Tuple [.Name x px, .Name y py] kt pt] (.Tuple [a, b] k2 pt2) X.env = pure (some [x, y])) (hk : PSs X rest (tS (gd X ad) N ek)) :
    PSs X (.Assign [.Tuple [.Name x px, .Name y py] kt pt] (.Tuple [a, b] k2 pt2) pos :: rest) (tS (gd X ad) N (fun env dr => (ea env dr).bind fun x dr => (eb env dr).bind fun y dr =>
      (ofO ((setSl env i (.val x)).bind fun env => setSl env j (.val y)) dr).bind fun env dr => ek env dr)) :=
  PSsw' (pss_cons (ps_par hc hN hi hj hij hx hy (a_cons ha (a_cons hb a_nil (star_cons s2)) (star_cons s1)) hw) hk) fun D1 σ H ⟨env, F, dr, st, h⟩ => by
    have e0 : ∀ {KK : D → D → List Int → Res Fl}, ((ea env dr).bind fun x dr => (eb env dr).bind fun y dr => KK x y dr) = (((ea env dr).bind fun d dr => ((eb env dr).bind fun d dr => ((Res.ok [] dr).bind fun ds dr => Res.ok (d :: ds) dr)).bind fun ds dr => .ok (d :: ds) dr)).bind fun ds dr => match ds with
      | [x, y] => KK x y dr
      | _ => .bad := by
      intro KK
      cases ea env dr with
      | ok x dr1 =>
        rw [Res.bind_ok, Res.bind_ok]
        cases eb env dr1 <;> rfl
      | exc _ _ => rfl
      | bad => rfl
    dsimp only at h
    rw [e0] at h
    refine sA (R := fun vs H1 => ∃ v w, vs = [v, w] ∧ tS (gd X ad) N ek D1 ((σ.set i (some v)).set j (some w)) H1) st h fun ds dr1 vs H1 F1 st1 _ rs k => ?_
    match ds, k with
    | [], k => exact k.elim
    | [_], k => exact k.elim
    | _ :: _ :: _ :: _, k => exact k.elim
    | [x, y], k =>
      obtain ⟨v, t, rfl, r1, t1⟩ := rs
      obtain ⟨w, t2, rfl, r2, t3⟩ := t1
      cases (show t2 = [] from t3)
      obtain ⟨env', e1, k2⟩ := post_ofO (post_bind k)
      refine ⟨v, w, rfl, ?_⟩
      have e2 : (if i < env.length then some (env.set i (.val x)) else none).bind (fun env => if j < env.length then some (env.set j (.val y)) else none) = some env' := e1
      by_cases hi : i < env.length
      · rw [if_pos hi] at e2
        have e3 : (if j < (env.set i (.val x)).length then some ((env.set i (.val x)).set j (.val y)) else none) = some env' := e2
        split at e3
        · rename_i hj
          cases e3
          exact ⟨_, F1, dr1, (st1.setV hi r1).setV hj r2, k2⟩
        · cases e3
      · rw [if_neg hi] at e2
        cases e2
theorem s_rse {x m : Str} {j : Nat} {p p2 pos' : Pos} {G : Cfg} {k : Nat} {C : Ct} (xs : XS X ad N G k C) (h1 : gloB C x = true) (h2 : C.exc.contains x = true) :
    PSs X (.Raise (some (.Call (.Name x p) [.Constant (.str m) j p2] [] pos)) none pos' :: rest) (tS (gd X ad) N (fun _ dr => .exc ⟨x, none⟩ dr)) := by
  obtain ⟨Ca, B, n, i, bm, f1, f2, f3, f4, f5⟩ := xs.exc x h2
  obtain ⟨g1, g2, _⟩ := gl_of xs.toXF h1
  exact PSsw' (pss_cons (L2N.ps_raise xs.calm xs.tk2 (L2N.pmk_own f1 f2 f3 f4 f5 g1 g2)) pss_never) fun D σ H ⟨env, F, dr, st, h⟩ => h (.ref Ca) none σ H F st.po ⟨f3, rfl⟩
/-- the reading of a suite that gives a caught error's flags -/
def tFl (P : Program) (w : World) (K : PySem.W.Frag) (mg : Str → Option Value) (base : Heap) (fa : Addr) (fd : FuncData) (y : Str) (i : Nat) : Addr → Value → Option Addr → TS := fun a cls d D σ H => ∃ (Da : Addr) (bs : List Bool) (σ0 : L2.St), cls = .ref Da ∧ d = none ∧ σ = σ0.set i (some (.ref a)) ∧
  (∀ ob : Obj, Zc (.ref Da) none ob → (∃ vs, ob.data = .fields vs) → FnP P w K mg base (L2N.CX P w) 1 fa fd [y] (a, ob) (spFl a bs)) ∧ ∀ p, H p = none → D.rt (.ref p) (upd H p (.lst (bs.map .bl)))
theorem suite_fl {a : Addr} {ob : Obj} {cls : Value} {d : Option Addr} {pn : List (Addr × Obj)} {fa : Addr} {fd : FuncData} {y f n : Str} {i : Nat} {p1 p2 p3 p4 : Pos} (hr : Room 1 X.A) (hi : X.N[i]? = some n) (hv : Vis X.env.scope n) (hd : (n == ("__debug__" : Str)) = false) (hd2 : (n == ("__classdict__" : Str)) = false)
    (hg : Gl X f) (hdb : (f == ("__debug__" : Str)) = false) (hm : X.mg f = some (.ref fa)) (hk : PySem.W.keepIn X.K (.ref fa) = true) (hb : Binds X.K fd [y] []) (hz : L2N.Zn cls d ob) (hf : ∃ vs, ob.data = .fields vs) :
    PSs (X.suite a ((a, ob) :: pn)) [.Return (some (.Call (.Name f p1) [.Name n p2] [] p3)) p4] (tFl X.prog X.w X.K X.mg X.base fa fd y i a cls d) := by
  refine ⟨fun pins s σ H D I ⟨Da, bs, σ0, e1, e2, e3, F, q⟩ => ?_⟩
  subst e1 e2 e3
  obtain ⟨vs, hvs⟩ := hf
  have hot : Hot1 (X.suite a ((a, ob) :: pn)).A (a, ob) := ⟨rfl, vs, hvs, hz.2.2 vs hvs⟩
  have hl := I.len
  have hin : i < σ0.length := by
    rw [List.length_set] at hl
    rw [hl]
    exact (List.getElem?_eq_some_iff.mp hi).1
  refine (pss_cons (ps_ret (pe_callP (X := X.suite a ((a, ob) :: pn)) (CX := L2N.CX X.prog X.w) (E := fun _ _ _ _ => False) (F ob hz.zc ⟨vs, hvs⟩) ⟨hr.dp, hr.un⟩ hot List.mem_cons_self hg hm hk hb (fun σ pins H s e s' I h => by
    obtain ⟨_, _, _, _, _, _, _, _, _, _, _, _, z⟩ := h
    exact z.elim) (pa_cons (pe_var (i := i) hi hv hd hd2) pa_nil rfl) hdb rfl rfl)) pss_never).run pins s _ H D I ?_
  exact ⟨.ref a, by rw [List.getElem?_set_self hin], rfl, rfl, fun p hp => q p hp⟩
theorem s_tryF {x f n : Str} {i : Nat} {np p1 p2 p3 p4 pp : Pos} {bd : List Stmt} {G : Cfg} {k : Nat} {C : Ct} {cb ck : CS} (xs : XS X ad N G k C) (h1 : gloB C x = true) (h2 : C.tcl.contains x = true) (h3 : gloB C f = true) (h4 : C.flg.contains f = true)
    (h5 : C.N[i]? = some n) (h6 : C.sc.names.lookup n = some .local) (h7 : (n == ("__debug__" : Str)) = false) (h8 : (n == ("__classdict__" : Str)) = false)
    (hb : ∀ (W : WX) (pn : List (Addr × Obj)) (xe : Value → Shared → Prop), L2N.Takes (X.tr pn xe) W → PassesOwn (model X.prog X.w) X.A X.env xe → PSs (X.tr pn xe) bd (tS (gd X ad) ⟨N.F0, N.H0, W⟩ (evB G cb))) (hk : PSs X rest (tS (gd X ad) N (evB G ck))) :
    PSs X (.Try bd [.ExceptHandler (some (.Name x np)) (some n) [.Return (some (.Call (.Name f p1) [.Name n p2] [] p3)) p4] pp] [] [] pos :: rest) (tS (gd X ad) N (evB G (.tryF x f i cb ck))) := by
  obtain ⟨c, hc, hsub⟩ := xs.sub x h2
  obtain ⟨fa, fd, y, m1, m2, m3, m4⟩ := xs.flg f h4
  obtain ⟨g1, g2, _⟩ := gl_of xs.toXF h1
  obtain ⟨g3, g4, _⟩ := gl_of xs.toXF h3
  have hi : X.N[i]? = some n := by rw [xs.eN]; exact h5
  have hln : X.env.kindOf n = some .local := by
    show X.env.scope.names.lookup n = _
    rw [xs.sc]
    exact h6
  have hk1 := xs.one
  · refine PSsw' (pss_cons (L2N.ps_try_as (tb := fun W => tS (gd X ad) ⟨N.F0, N.H0, W⟩ (evB G cb)) (ts := tFl X.prog X.w X.K X.mg X.base fa fd y i) xs.stk xs.frm xs.nd hi hln ⟨g1, g2, hc⟩ xs.tk2 hb (fun a ob cls d pn hz hf => suite_fl (xs.room.mono hk1) hi (.inl hln) h7 h8 g3 g4 m1 m2 m3 hz hf)) hk) fun D1 σ H ⟨env, F, dr, st, h⟩ => ?_
    refine ⟨env, F, dr, st, ?_⟩
    have h' : (match evB G cb env dr with
      | .bad => Res.bad
      | .exc e dr => match G.sub e.cls x with
        | some true => if e.at_.isNone then (ofO (G.flg f e.cls) dr).bind fun d dr => Res.ok (Fl.rt d) dr else Res.bad
        | some false => .exc e dr
        | none => .bad
      | .ok f dr => match f with
        | .nx env => evB G ck env dr
        | f => .ok f dr).post (FlP (gd X ad) N D1 F) (EXs (gd X ad) N) := h
    cases q : evB G cb env dr with
    | bad => rw [q] at h'; exact h'
    | ok fl dr1 =>
      rw [q] at h'
      cases fl with
      | nx env2 => exact fun σ' H' F' st2 s2 => ⟨env2, F', dr1, st2, post_up s2 h'⟩
      | rt d => exact h'
      | bk env2 => exact h'
      | ct env2 => exact h'
    | exc e dr1 =>
      rw [q] at h'
      dsimp only at h'
      show EXs (gd X ad) _ e dr1
      intro cls dd σ' H' F' po ex
      show wAs X.K c i (tFl X.prog X.w X.K X.mg X.base fa fd y i) N.W _ cls dd σ' H'
      cases q1 : G.sub e.cls x with
      | none => rw [q1] at h'; exact h'.elim
      | some b =>
        rw [q1] at h'
        refine ⟨b, hsub e.cls b cls q1 ex.1, fun hb1 a ha => ?_, fun hb1 => ?_⟩
        · subst hb1
          have h2 : (if e.at_.isNone = true then (ofO (G.flg f e.cls) dr1).bind fun d dr => Res.ok (Fl.rt d) dr else Res.bad).post (FlP (gd X ad) N D1 F) (EXs (gd X ad) N) := h'
          by_cases hn : e.at_.isNone = true
          · rw [if_pos hn] at h2
            obtain ⟨d, e1, k2⟩ := post_ofO (post_bind h2)
            obtain ⟨_, Da, bs, rfl, rfl, hl, hF⟩ := m4 e.cls d cls e1 ex.1
            have e3 : dd = none := by
              have := ex.2
              rw [Option.isNone_iff_eq_none.mp hn] at this
              exact this
            refine ⟨Da, bs, σ', rfl, e3, rfl, hF a, fun p hp => ?_⟩
            have k3 : ∀ v H' F', Post (gd X ad) N.F0 N.H0 F' H' dr1 → Rep (gd X ad) F' (.lst (bs.map .bl)) v → D1.rt v H' := k2
            refine k3 _ _ _ (po.alloc (o := .lst (bs.map .bl)) hp) ⟨by rw [List.length_map]; exact hl, p, bs.map .bl, rfl, upd_same, ?_⟩
            exact reps_bls bs
          · rw [if_neg hn] at h2
            exact h2.elim
        · subst hb1
          exact (show EXs (gd X ad) N e dr1 from h') cls dd σ' H' F' po ex
end
end Cr
namespace Cr
open PySem PySem.Spec PyProof.Rows L2 L2H

/-- an own object takes another content -/
theorem StR.mutO {g : Gd} {F0 H0 F H : Hp} {dr : List Int} {σ : L2.St} {env : Env} {i : Nat} {d d' : D} {p : Addr} {o : HO} (st : StR g F0 H0 σ env F H dr) (h : get env i = .own d) (hp : σ[i]? = some (some (.ref p))) (r : OwnR g F (upd H p o) p d') (hi : i < env.length) :
    StR g F0 H0 σ (env.set i (.own d')) F (upd H p o) dr := by
  have sl := st.slot i
  rw [h] at sl
  obtain ⟨p', e, f, h0, n, _⟩ := sl
  rw [hp] at e
  cases e
  refine ⟨st.po.mut h0 f n, by rw [List.length_set]; exact st.len, fun j => ?_, fun j l d1 e1 q h1 h2 h3 h4 => ?_⟩
  · rw [get_set]
    by_cases hj : i = j
    · subst hj
      rw [if_pos ⟨rfl, hi⟩]
      exact ⟨p, hp, f, h0, n, r⟩
    · rw [if_neg (fun z => hj z.1)]
      have s2 := st.slot j
      cases q : get env j with
      | no => trivial
      | val d2 => rw [q] at s2; exact s2
      | own d2 =>
        rw [q] at s2
        obtain ⟨p2, e2, f2, h2, n2, r2⟩ := s2
        have hne : p2 ≠ p := fun z => by
          subst z
          exact hj (st.apart i j d d2 p2 h q hp e2)
        exact ⟨p2, e2, f2, h2, n2, r2.mono (Same.refl _) fun o2 z => by rw [upd_ne hne]; exact z⟩
  · have own : ∀ {m : Nat} {d2 : D}, get (env.set i (.own d')) m = .own d2 → ∃ d3, get env m = .own d3 := fun {m d2} hm => by
      rw [get_set] at hm
      by_cases hj : i = m
      · subst hj
        exact ⟨d, h⟩
      · rw [if_neg (fun z => hj z.1)] at hm
        exact ⟨d2, hm⟩
    obtain ⟨d3, h5⟩ := own h1
    obtain ⟨d4, h6⟩ := own h2
    exact st.apart j l d3 d4 q h5 h6 h3 h4
theorem get_lt {env : Env} {i : Nat} {d : D} (h : get env i = .own d) : i < env.length := by
  by_cases hi : i < env.length
  · exact hi
  · unfold get at h
    rw [List.getD_eq_getElem?_getD, List.getElem?_eq_none (by omega)] at h
    cases h
theorem forL_cons {b : D → Env → List Int → Res Fl} {d : D} {ds : List D} {env : Env} {dr : List Int} : forL b (d :: ds) env dr = (b d env dr).bind fun f dr => match f with
    | .nx env => forL b ds env dr
    | .ct env => forL b ds env dr
    | .bk env => .ok (.nx env) dr
    | .rt d => .ok (.rt d) dr := rfl
section
variable {X : Cx} {ad : Option Addr} {N : En} {pk : Bool} {pos : Pos} {e l r : Expr} {rest : List Stmt} {σ : L2.St} {H F : Hp} {env : Env} {dr : List Int} {D0 : Ends}
theorem s_app {i : Nat} {x : Str} {p apos cpos : Pos} {ea : Env → List Int → Res D} {ek : Env → List Int → Res Fl} (hv : PE X (.Name x p) (tVar i)) (he : PE X e (tM (gd X ad) N false ea)) (hs : isStar e = false) (hline : (apos.endLine == cpos.line) = true) (hk : PSs X rest (tS (gd X ad) N ek)) :
    PSs X (.Expr (.Call (.Attribute (.Name x p) "append" apos) [e] [] cpos) pos :: rest) (tS (gd X ad) N (fun env dr => match get env i with
      | .own (.lst ds) => (ea env dr).bind fun d dr => (ofO (grd (decide (ds.length < sizeLine)) (env.set i (.own (.lst (ds ++ [d]))))) dr).bind fun env dr => ek env dr
      | _ => .bad)) :=
  PSsw' (pss_cons (ps_expr (pe_bm PySem.F.plainAttrs_list PySem.F.slot_list_append PySem.F.type_list_append mt_append hv (a_cons he a_nil (star_cons hs)) rfl (by rw [star_all (by rw [List.all_cons, hs]; rfl)]; rfl) hline (star_cons hs) rfl) rfl) hk) fun D1 σ H ⟨env, F, dr, st, h⟩ => by
    dsimp only at h
    split at h
    · rename_i ds q
      have sl := st.slot i
      rw [q] at sl
      obtain ⟨p, e1, f, h0, n, lo, vs, hp, rs⟩ := sl
      refine ⟨.ref p, e1, .inl ⟨rfl, vs, .of hp⟩, ?_⟩
      have e0 : ∀ {KK : D → List Int → Res Fl}, ((ea env dr).bind fun d dr => KK d dr) = ((ea env dr).bind fun d dr => (Res.ok [] dr).bind fun ds dr => Res.ok (d :: ds) dr).bind fun ds dr => match ds with
        | [d] => KK d dr
        | _ => .bad := by
        intro KK
        cases ea env dr <;> rfl
      rw [e0] at h
      refine sA (R := fun xs H2 => rAppend (.ref p) xs H2 fun _ H3 => tS (gd X ad) N ek D1 σ H3) st h fun dl dr1 vl H1 F1 st1 sb rl k => ?_
      match dl, k with
      | [], k => exact k.elim
      | _ :: _ :: _, k => exact k.elim
      | [d], k =>
        obtain ⟨v, t, rfl, r1, t1⟩ := rl
        cases (show t = [] from t1)
        obtain ⟨env', e3, k2⟩ := post_ofO (post_bind k)
        obtain ⟨hz, rfl⟩ := grd_some e3
        have sl1 := st1.slot i
        rw [q] at sl1
        obtain ⟨p1, e4, f1, h1, n1, lo1, vs1, hp1, rs1⟩ := sl1
        rw [e1] at e4
        cases e4
        have hz2 := of_decide_eq_true hz
        refine ⟨p, vs1, v, rfl, rfl, hp1, by rw [rs1.len]; exact hz2, _, F1, dr1, st1.mutO (d' := .lst (ds ++ [d])) q e1 ⟨by rw [List.length_append]; simp; omega, _, upd_same, rs1.snoc r1⟩ (get_lt q), k2⟩
    · exact h.elim
/-- a loop over the row of draws itself, which stays as it is -/
theorem s_forD {i : Nat} {x : Str} {xp : Pos} {tg : Expr} {body : List Stmt} {p : Pat} {eb ek : Env → List Int → Res Fl} (hp : PassesOwn (model X.prog X.w) X.A X.env X.xe) (hc : X.calm = true) (hv : PE X (.Name x xp) (tVar i)) (hg : PG X tg (gP (gd X ad) N p))
    (hb : PSs X body (tS (gd X ad) N eb)) (hk : PSs X rest (tS (gd X ad) N ek)) :
    PSs X (.For tg (.Name x xp) body [] pos :: rest) (tS (gd X ad) N (fun env dr => match get env i with
      | .val .drw => (forL (fun d env dr => ((ofO (asgP p d env) dr).bind fun env dr => eb env dr).bind fun f dr2 => if dr2 = dr then .ok f dr2 else .bad) (dr.reverse.map .int) env dr).bind fun f dr => match f with
        | .nx env => ek env dr
        | f => .ok f dr
      | _ => .bad)) :=
  PSsw' (pss_cons (ps_for hp hc (pi_list hv) hg hb (fun x => rfl)) hk) fun D1 σ H ⟨env, F, dr, st, h⟩ => by
    dsimp only at h
    split at h
    · rename_i q
      have sl := st.slot i
      rw [q] at sl
      obtain ⟨v, e1, rv⟩ := sl
      obtain ⟨A, ea, rfl⟩ := (show ∃ a, ad = some a ∧ v = .ref a from rv)
      refine ⟨.ref A, e1, A, rfl, ⟨_, .of (st.po.dr A ea)⟩, ?_⟩
      have hlen : (dr.reverse.map D.int).length = (dr.reverse.map V.int).length := by rw [List.length_map, List.length_map]
      generalize hB : (fun (d : D) (env : Env) (dr : List Int) => ((ofO (asgP p d env) dr).bind fun env dr => eb env dr).bind fun f dr2 => if dr2 = dr then Res.ok f dr2 else .bad) = B at h
      have inv : ∀ {σ' : L2.St} {H' : Hp} {i : Nat} {x : V} {env' : Env} {F' : Hp}, StR (gd X ad) N.F0 N.H0 σ' env' F' H' dr → (∀ ys, SqL X.K H' A ys → ys[i]? = some x) → ∃ z : Int, x = .int z ∧ (dr.reverse.map D.int)[i]? = some (.int z) := fun {σ' H' i x env' F'} st' y => by
        have := y _ (.of (st'.po.dr A ea))
        rw [List.getElem?_map] at this
        cases e : dr.reverse[i]? with
        | none => rw [e] at this; cases this
        | some z =>
          rw [e] at this
          exact ⟨z, (Option.some.inj this).symm, by rw [List.getElem?_map, e]; rfl⟩
      refine ⟨fun i m σ' H' => m = (dr.reverse.map D.int).length - i ∧ i ≤ (dr.reverse.map D.int).length ∧ ∃ env' F', StR (gd X ad) N.F0 N.H0 σ' env' F' H' dr ∧ Sub F F' ∧
        ((forL B ((dr.reverse.map D.int).drop i) env' dr).bind fun f dr => match f with
          | .nx env => ek env dr
          | f => .ok f dr).post (FlP (gd X ad) N D1 F') (EXs (gd X ad) N), ⟨_, rfl, Nat.zero_le _, env, F, st, Same.refl _, by rw [List.drop_zero]; exact h⟩, ?_⟩
      rintro i m σ' H' ⟨rfl, hi', env', F', st', s', h'⟩
      by_cases hlt : i < (dr.reverse.map D.int).length
      · right
        have hlt2 : i < (dr.reverse.map V.int).length := by rw [← hlen]; exact hlt
        refine ⟨⟨_, _, .of (st'.po.dr A ea), List.getElem?_eq_getElem hlt2⟩, fun σ2 H2 => ∃ env2 F2, StR (gd X ad) N.F0 N.H0 σ2 env2 F2 H2 dr ∧ Sub F F2 ∧
          ((forL B ((dr.reverse.map D.int).drop (i + 1)) env2 dr).bind fun f dr => match f with
            | .nx env => ek env dr
            | f => .ok f dr).post (FlP (gd X ad) N D1 F2) (EXs (gd X ad) N), fun σ2 H2 w => ⟨(dr.reverse.map D.int).length - (i + 1), by omega, rfl, hlt, w⟩, fun x H2 y => ?_⟩
        obtain ⟨rfl, y⟩ := y
        obtain ⟨z, rfl, ez⟩ := inv st' y
        rw [List.drop_eq_getElem_cons hlt] at h'
        have exd : (dr.reverse.map D.int)[i] = .int z := by
          rw [List.getElem?_eq_getElem hlt] at ez
          exact Option.some.inj ez
        rw [exd] at h'
        have h2 := post_bind h'
        rw [forL_cons] at h2
        have h3 := post_bind h2
        have e4 : B (.int z) env' dr = ((ofO (asgP p (.int z) env') dr).bind fun env dr => eb env dr).bind fun f dr2 => if dr2 = dr then Res.ok f dr2 else .bad := by rw [← hB]
        rw [e4] at h3
        have h4 := post_bind (post_bind h3)
        obtain ⟨env4, ea, h5⟩ := post_ofO h4
        refine ⟨env', F', dr, .int z, st', rfl, env4, ea, fun σ4 st4 _ _ => ⟨env4, F', dr, st4, h5.imp (fun f dr5 q5 => ?_) fun _ _ z => z⟩⟩
        by_cases hd : dr5 = dr
        · subst hd
          rw [if_pos rfl] at q5
          have mv : ∀ {env5 : Env} {F5 : Hp}, Sub F' F5 → ((forL B ((dr5.reverse.map D.int).drop (i + 1)) env5 dr5).post (fun f dr => Res.post (match f with
              | .nx env => ek env dr
              | f => .ok f dr) (FlP (gd X ad) N D1 F') (EXs (gd X ad) N)) (EXs (gd X ad) N)) → ((forL B ((dr5.reverse.map D.int).drop (i + 1)) env5 dr5).bind fun f dr => match f with
            | .nx env => ek env dr
            | f => .ok f dr).post (FlP (gd X ad) N D1 F5) (EXs (gd X ad) N) := fun {env5 F5} s5 q6 => by
            cases e9 : forL B ((dr5.reverse.map D.int).drop (i + 1)) env5 dr5 with
            | bad => rw [e9] at q6; exact q6.elim
            | exc e dd => rw [e9] at q6; exact q6
            | ok f dd =>
              rw [e9] at q6
              exact post_up s5 q6
          cases f with
          | nx env5 => exact fun σ5 H5 F5 st5 s5 => ⟨env5, F5, st5, s'.trans s5, mv s5 q5⟩
          | ct env5 => exact fun σ5 H5 F5 st5 s5 => ⟨env5, F5, st5, s'.trans s5, mv s5 q5⟩
          | bk env5 =>
            intro σ5 H5 F5 st5 s5
            exact ⟨env5, F5, dr5, st5, post_up s5 (show Res.post (ek env5 dr5) (FlP (gd X ad) N D1 F') (EXs (gd X ad) N) from q5)⟩
          | rt d5 => exact (show FlP (gd X ad) N D1 F' (.rt d5) dr5 from q5)
        · rw [if_neg hd] at q5
          exact q5.elim
      · have e : i = (dr.reverse.map D.int).length := by omega
        subst e
        rw [List.drop_length] at h'
        exact .inl ⟨⟨_, .of (st'.po.dr A ea), by rw [hlen]; exact Nat.le_refl _⟩, env', F', dr, st', h'⟩
    · exact h.elim
end
end Cr
namespace Cr
open PySem PySem.Spec PyProof.Rows L2 L2H

section
variable {X : Cx} {ad : Option Addr} {N : En} {G : Cfg} {k : Nat} {C : Ct} {env : PySem.Env}
theorem blockKind_fn (h : env.scope.kind = .function) : env.blockKind = .function := by
  unfold Env.blockKind
  rw [h]
  rfl
theorem swaps_yes {t : Str} {py lp : Pos} {elt : Expr} {gens : List Comprehension} {s : Scope} {l : Nat} (h0 : env.scope.kind = .function) (h1 : env.scope.names.lookup t = some .local) (h2 : (py.line == lp.line) = true)
    (h3 : (s.names.any fun (n, k) => n == t && (k == .local || k == .cell)) = false) : swapsWith (.ListComp elt gens s lp) (some (.Name t py)) l env = pure true := by
  unfold swapsWith
  dsimp only
  have e1 : env.kindOf t = some .local := h1
  rw [blockKind_fn h0, e1, show ((Expr.ListComp elt gens s lp).pos.line) = lp.line from rfl, h2, h3]
  rfl
theorem stores_two {x y : Str} {px py pt pt2 : Pos} {kt k2 : Nat} {a b : Expr} (h0 : env.scope.kind = .function) (hx : env.scope.names.lookup x = some .local) (hy : env.scope.names.lookup y = some .local) (hl0 : (px.line == px.line) = true) (hl : (py.line == px.line) = true) (hxy : (x == y) = false) (hyx : (y == x) = false)
    (ha : isStar a = false) (hb : isStar b = false) (h1 : [a, b].all (foldedForSure 8) = false) (h2 : [a, b].all (constantsAlone 8) = false) :
    swappedStores [.Tuple [.Name x px, .Name y py] kt pt] (.Tuple [a, b] k2 pt2) env = pure (some [x, y]) := by
  unfold swappedStores
  dsimp only
  have e1 : env.kindOf x = some .local := hx
  have e2 : env.kindOf y = some .local := hy
  have nb := blockKind_fn h0
  refine (if_neg ?_).trans ((if_neg ?_).trans ((if_neg ?_).trans ((if_neg ?_).trans ((if_neg ?_).trans ?_))))
  · rw [nb]
    exact Bool.false_ne_true
  · intro hh
    obtain ⟨z, hz, hq⟩ := List.any_eq_true.mp hh
    rcases List.mem_cons.mp hz with rfl | hz
    · cases z <;> first | (cases ha; done) | (cases hq; done)
    · cases List.mem_singleton.mp hz
      cases b <;> first | (cases hb; done) | (cases hq; done)
  · simp only [List.filterMap_cons, List.filterMap_nil, e1, e2, List.head?_cons, Option.map_some, Option.getD_some, show (Expr.Name x px).pos.line = px.line from rfl, hl0, hl, beq_self_eq_true, Bool.and_self, if_pos]
    have : ¬ y = x := by simpa using hyx
    simp [List.eraseDups_cons, this]
  · rw [h1]
    decide
  · rw [h2]
    decide
  · simp only [List.filterMap_cons, List.filterMap_nil, e1, e2, List.head?_cons, Option.map_some, Option.getD_some, show (Expr.Name x px).pos.line = px.line from rfl, hl0, hl, beq_self_eq_true, Bool.and_self, if_pos]
end
theorem fresh_snd : ∀ (c : CE) (C : Ct) (e : Expr), isFr c = true → ckE c C e = true → ∀ {X : Cx} {ad : Option Addr} {N : En} {G : Cfg} {k : Nat} (xf : XF X ad N G k C), PE X e (tMF (gd X ad) N (evE G c false))
  | .lst es, C, e, _, h, X, ad, N, G, k, xf => by
    rw [ckE] at h
    split at h
    · rename_i ls p q
      obtain rfl := vList_inv q
      exact m_lst (el := evL G es) (ckL_snd es C ls h xf)
    · cases h
  | .dicE t, C, e, _, h, X, ad, N, G, k, xf => by
    rw [ckE] at h
    split at h
    · rename_i p q
      obtain rfl := vDict_inv q
      exact m_dicE t
    · cases h
  | .non, _, _, h, _, _, _, _, _, _, _ => nomatch h
  | .var _, _, _, h, _, _, _, _, _, _, _ => nomatch h
  | .bl _, _, _, h, _, _, _, _, _, _, _ => nomatch h
  | .int _, _, _, h, _, _, _, _, _, _, _ => nomatch h
  | .str _, _, _, h, _, _, _, _, _, _, _ => nomatch h
  | .glo _, _, _, h, _, _, _, _, _, _, _ => nomatch h
  | .fnv _, _, _, h, _, _, _, _, _, _, _ => nomatch h
  | .nil, _, _, h, _, _, _, _, _, _, _ => nomatch h
  | .cons _ _, _, _, h, _, _, _, _, _, _, _ => nomatch h
  | .scons _ _, _, _, h, _, _, _, _, _, _, _ => nomatch h
  | .bin _ _ _, _, _, h, _, _, _, _, _, _, _ => nomatch h
  | .neg _, _, _, h, _, _, _, _, _, _, _ => nomatch h
  | .cmp _ _ _, _, _, h, _, _, _, _, _, _, _ => nomatch h
  | .cmp2 _ _ _ _ _, _, _, h, _, _, _, _, _, _, _ => nomatch h
  | .isN _, _, _, h, _, _, _, _, _, _, _ => nomatch h
  | .notN _, _, _, h, _, _, _, _, _, _, _ => nomatch h
  | .and _, _, _, h, _, _, _, _, _, _, _ => nomatch h
  | .or _, _, _, h, _, _, _, _, _, _, _ => nomatch h
  | .not _, _, _, h, _, _, _, _, _, _, _ => nomatch h
  | .ife _ _ _, _, _, h, _, _, _, _, _, _, _ => nomatch h
  | .tup _, _, _, h, _, _, _, _, _, _, _ => nomatch h
  | .call _ _, _, _, h, _, _, _, _, _, _, _ => nomatch h
  | .callv _ _, _, _, h, _, _, _, _, _, _, _ => nomatch h
  | .blt _ _, _, _, h, _, _, _, _, _, _, _ => nomatch h
  | .isi _ _, _, _, h, _, _, _, _, _, _, _ => nomatch h
  | .meth _ _ _, _, _, h, _, _, _, _, _, _, _ => nomatch h
  | .ix _ _, _, _, h, _, _, _, _, _, _, _ => nomatch h
  | .sl _ _ _, _, _, h, _, _, _, _, _, _, _ => nomatch h
  | .rev _, _, _, h, _, _, _, _, _, _, _ => nomatch h
  | .rng _, _, _, h, _, _, _, _, _, _, _ => nomatch h
  | .enum _, _, _, h, _, _, _, _, _, _, _ => nomatch h
  | .zip _ _, _, _, h, _, _, _, _, _, _, _ => nomatch h
  | .items _, _, _, h, _, _, _, _, _, _, _ => nomatch h
  | .vals _, _, _, h, _, _, _, _, _, _, _ => nomatch h
  | .rvd _, _, _, h, _, _, _, _, _, _, _ => nomatch h
  | .lc p it t x, C, e, _, h, X, ad, N, G, k, xf => by
    rw [ckE] at h
    split at h
    · rename_i elt tg iter ifs s pos q
      obtain rfl := vListComp_inv q
      simp only [Bool.and_eq_true, Bool.not_eq_true'] at h
      obtain ⟨⟨⟨⟨⟨h1, h2⟩, h3⟩, h4⟩, h5⟩, h6⟩ := h
      exact m_lc (ei := evI G it true) (et := evTs G t) (ee := evE G x false) xf.calm xf.nd (blk_of xf h1) (ownOf_snd C p) (ckI_snd it C tg iter h3 xf true) (fun s H A cl fp => ckP_snd p _ tg h4 (xf.inBlk s H _ A cl fp))
        (fun s H A cl fp => ckTs_snd t _ ifs h5 (xf.inBlk s H _ A cl fp)) (fun s H A cl fp => ckE_snd x _ elt h6 (xf.inBlk s H _ A cl fp) false) (set_fold h2)
    · cases h
  | .lc2 _ _ _ _ _ _ _, _, _, h, _, _, _, _, _, _, _ => nomatch h
  | .dc _ _ _ _ _ _, _, _, h, _, _, _, _, _, _, _ => nomatch h
  | .dpop _, _, _, h, _, _, _, _, _, _, _ => nomatch h
  | .dlen _, _, _, h, _, _, _, _, _, _, _ => nomatch h
  | .fstr _, _, _, h, _, _, _, _, _, _, _ => nomatch h
  | .lrev _, _, _, h, _, _, _, _, _, _, _ => nomatch h
  | .dead, _, _, h, _, _, _, _, _, _, _ => nomatch h
theorem setLc_snd {i : Nat} {p : Pat} {it t x : CE} {C : Ct} {tg v : Expr} {pos : Pos} {rest : List Stmt} {X : Cx} {ad : Option Addr} {N : En} {G : Cfg} {k : Nat} {ck : CS} (xs : XS X ad N G k C) (hs : swB i C tg v = true) (h : ckE (.lc p it t x) C v = true) (hk : PSs X rest (tS (gd X ad) N (evB G ck))) (o : Bool) :
    PSs X (.Assign [tg] v pos :: rest) (tS (gd X ad) N (fun env dr => (evE G (.lc p it t x) false env dr).bind fun d dr => (ofO (if o then (freshD d).bind fun d => setSl env i (.own d) else asgP (.nm i) d env) dr).bind fun env dr => evB G ck env dr)) := by
  have xf := xs.toXF
  rw [ckE] at h
  split at h
  · rename_i elt tg2 iter ifs s lp q
    obtain rfl := vListComp_inv q
    unfold swB at hs
    split at hs
    · rename_i t' py _ _ s' lp' q1 q2
      obtain rfl := vName_inv q1
      cases q2
      simp only [Bool.and_eq_true, decide_eq_true_eq, Bool.not_eq_true'] at hs
      obtain ⟨⟨⟨⟨s1, s2⟩, s3⟩, s4⟩, s5⟩ := hs
      simp only [Bool.and_eq_true, Bool.not_eq_true'] at h
      obtain ⟨⟨⟨⟨⟨h1, h2⟩, h3⟩, h4⟩, h5⟩, h6⟩ := h
      have sc1 : X.env.scope.names.lookup t' = some .local := by rw [xs.sc]; exact s2
      exact s_setLcV (ei := evI G it true) (et := evTs G t) (ee := evE G x false) xf.calm xf.nd (by rw [xs.eN]; exact s1) sc1 (swaps_yes (by rw [xs.sc]; exact s3) sc1 s4 s5) (blk_of xf h1) (ownOf_snd C p) (ckI_snd it C tg2 iter h3 xf true) (fun s H A cl fp => ckP_snd p _ tg2 h4 (xf.inBlk s H _ A cl fp))
        (fun s H A cl fp => ckTs_snd t _ ifs h5 (xf.inBlk s H _ A cl fp)) (fun s H A cl fp => ckE_snd x _ elt h6 (xf.inBlk s H _ A cl fp) false) (set_fold h2) hk o
    · cases hs
  · cases h
theorem lc_of {c : CE} (h : isLc c = true) : ∃ p it t x, c = .lc p it t x := by
  cases c <;> first | exact ⟨_, _, _, _, rfl⟩ | cases h
theorem ckB_snd : ∀ (c : CS) (C : Ct) (ss : List Stmt), ckB c C ss = true → ∀ {X : Cx} {ad : Option Addr} {N : En} {G : Cfg} {k : Nat} (xs : XS X ad N G k C), PSs X ss (tS (gd X ad) N (evB G c))
  | .done, C, ss, h, X, ad, N, G, k, xs => by
    rw [ckB, List.isEmpty_iff] at h
    subst h
    exact s_done
  | .dead, C, ss, h, X, ad, N, G, k, xs => ⟨fun pins s σ H D I ⟨env, F, dr, st, k⟩ => k.elim⟩
  | .frz i k', C, ss, h, X, ad, N, G, k, xs => s_frz (ek := evB G k') (ckB_snd k' C ss h xs)
  | .ex e k', C, [], h, X, ad, N, G, k, xs => nomatch h
  | .ex e k', C, s :: ss, h, X, ad, N, G, k, xs => by
    rw [ckB] at h
    split at h
    · rename_i x p q
      obtain rfl := wExpr_inv q
      simp only [Bool.and_eq_true, Bool.not_eq_true'] at h
      exact s_ex (ea := evE G e false) (ek := evB G k') (ckE_snd e C x h.1.2 xs.toXF false) (swaps_no h.1.1) (ckB_snd k' C ss h.2 xs)
    · cases h
  | .asg p e k', C, [], h, X, ad, N, G, k, xs => nomatch h
  | .asg p e k', C, s :: ss, h, X, ad, N, G, k, xs => by
    rw [ckB] at h
    split at h
    · rename_i tg v pos q
      obtain rfl := wAssign_inv q
      rw [Bool.and_eq_true, Bool.and_eq_true] at h
      obtain ⟨⟨h1, h2⟩, h3⟩ := h
      have ih := ckB_snd k' C ss h3 xs
      cases hc : noSw C tg v with
      | false =>
        rw [hc, if_neg Bool.false_ne_true] at h1
        cases p with
        | nm i =>
          dsimp only at h1
          rw [Bool.and_eq_true] at h1
          obtain ⟨p', it, t, x, rfl⟩ := lc_of h1.2
          exact setLc_snd xs h1.1 h2 ih false
        | _ => cases h1
      | true =>
        rw [hc, if_pos rfl] at h1
        simp only [Bool.and_eq_true, Bool.not_eq_true'] at h1
        exact s_asg (ea := evE G e false) (ek := evB G k') (ckE_snd e C v h2 xs.toXF false) (ckP_snd p C tg h1.1.2 xs.toXF) (noSw_ok xs.sc h1.1.1 hc) (stores_no h1.2) (sole_asg h1.1.1) ih
    · cases h
  | .own i e k', C, [], h, X, ad, N, G, k, xs => nomatch h
  | .own i e k', C, s :: ss, h, X, ad, N, G, k, xs => by
    rw [ckB] at h
    split at h
    · rename_i tg v pos q
      obtain rfl := wAssign_inv q
      rw [Bool.and_eq_true, Bool.and_eq_true] at h
      obtain ⟨⟨h1, h2⟩, h3⟩ := h
      have ih := ckB_snd k' C ss h3 xs
      cases hc : noSw C tg v with
      | false =>
        rw [hc, if_neg Bool.false_ne_true, Bool.and_eq_true] at h1
        obtain ⟨p', it, t, x, rfl⟩ := lc_of h1.2
        exact setLc_snd xs h1.1 h2 ih true
      | true =>
        rw [hc, if_pos rfl, Bool.and_eq_true] at h1
        obtain ⟨hf, hp⟩ := h1
        have hp2 := hp
        rw [ckP] at hp
        split at hp
        · rename_i x p2 q2
          obtain rfl := vName_inv q2
          simp only [Bool.and_eq_true, decide_eq_true_eq] at hp
          have xf := xs.toXF
          exact s_own (ea := evE G e false) (ek := evB G k') xf.nd (by rw [xf.eN]; exact hp.1.1) (by rw [xf.sc]; exact loc_of hp.1.2) (fn_ok xf hp.2) (fresh_snd e C v hf h2 xf) (noSw_ok xs.sc rfl hc) ih
        · cases hp
    · cases h
  | .par i j a b k', C, [], h, X, ad, N, G, k, xs => nomatch h
  | .par i j a b k', C, s :: ss, h, X, ad, N, G, k, xs => by
    rw [ckB] at h
    split at h
    · rename_i tg v pos q
      obtain rfl := wAssign_inv q
      split at h
      · rename_i n1 n2 _ _ e1 e2 _ _ q1 q2
        obtain rfl := vTuple_inv q1
        obtain rfl := vTuple_inv q2
        split at h
        · rename_i x px y py q3 q4
          obtain rfl := vName_inv q3
          obtain rfl := vName_inv q4
          simp only [Bool.and_eq_true, decide_eq_true_eq, Bool.not_eq_true', decide_eq_false_iff_not] at h
          obtain ⟨⟨⟨⟨⟨⟨⟨⟨⟨⟨⟨⟨⟨⟨⟨⟨h0, h1⟩, h2⟩, h3⟩, h4⟩, h5⟩, h6⟩, h7⟩, h8⟩, h9⟩, ha⟩, hb⟩, hc⟩, hd⟩, he⟩, hf⟩, hg⟩ := h
          have xf := xs.toXF
          have lx : X.env.scope.names.lookup x = some .local := by rw [xf.sc]; exact h6
          have ly : X.env.scope.names.lookup y = some .local := by rw [xf.sc]; exact h7
          exact s_par (ea := evE G a false) (eb := evE G b false) (ek := evB G k') xf.calm xf.nd (by rw [xf.eN]; exact h1) (by rw [xf.eN]; exact h2) h3 lx ly (ckE_snd a C e1 he xf false) (ckE_snd b C e2 hf xf false) ha hb
            (stores_two (by rw [xf.sc]; exact h0) lx ly h8 h9 h4 h5 ha hb hc hd) (ckB_snd k' C ss hg xs)
        · cases h
      · cases h
    · cases h
  | .ifs c a b k', C, [], h, X, ad, N, G, k, xs => nomatch h
  | .ifs c a b k', C, s :: ss, h, X, ad, N, G, k, xs => by
    rw [ckB] at h
    split at h
    · rename_i c' a' b' pos q
      obtain rfl := wIf_inv q
      simp only [Bool.and_eq_true] at h
      exact s_if (et := evT G c) (ea := evB G a) (eb := evB G b) (ek := evB G k') (ckT_snd c C c' h.1.1.1 xs.toXF) (ckB_snd a C a' h.1.1.2 xs) (ckB_snd b C b' h.1.2 xs) (ckB_snd k' C ss h.2 xs)
    · cases h
  | .for_ p it b k', C, [], h, X, ad, N, G, k, xs => nomatch h
  | .for_ p it b k', C, s :: ss, h, X, ad, N, G, k, xs => by
    rw [ckB] at h
    split at h
    · rename_i tg it' b' pos q
      obtain rfl := wFor_inv q
      simp only [Bool.and_eq_true, Bool.not_eq_true'] at h
      exact s_for (ei := evI G it false) (eb := evB G b) (ek := evB G k') xs.own xs.calm (ckI_snd it C tg it' h.1.1.2 xs.toXF false) (ckP_snd p C tg h.1.1.1.2 xs.toXF) (ckB_snd b C b' h.1.2 xs) (set_fold h.1.1.1.1) (ckB_snd k' C ss h.2 xs)
    · cases h
  | .brk, C, ss, h, X, ad, N, G, k, xs => by
    obtain ⟨p, r, rfl⟩ := isBrk_eq h
    exact s_brk
  | .cnt, C, ss, h, X, ad, N, G, k, xs => by
    obtain ⟨p, r, rfl⟩ := isCnt_eq h
    exact s_cnt
  | .ret e, C, [], h, X, ad, N, G, k, xs => nomatch h
  | .ret e, C, s :: ss, h, X, ad, N, G, k, xs => by
    rw [ckB] at h
    split at h
    · rename_i x p q
      obtain rfl := wReturn_inv q
      exact s_ret (ea := evE G e false) (ckE_snd e C x h xs.toXF false)
    · cases h
  | .ret0, C, [], h, X, ad, N, G, k, xs => nomatch h
  | .ret0, C, s :: ss, h, X, ad, N, G, k, xs => by
    rw [ckB] at h
    split at h
    · rename_i p q
      obtain rfl := wReturn_inv q
      exact s_ret0
    · cases h
  | .rse x e, C, [], h, X, ad, N, G, k, xs => nomatch h
  | .rse x e, C, s :: ss, h, X, ad, N, G, k, xs => by
    rw [ckB] at h
    split at h
    · rename_i r p q
      obtain rfl := wRaise_inv q
      split at h
      · rename_i n m p2 q2
        obtain rfl := vCall_inv q2
        split at h
        · rename_i y p3 m' j p4 q3 q4
          obtain rfl := vName_inv q3
          obtain rfl := vConstant_inv q4
          simp only [Bool.and_eq_true, decide_eq_true_eq] at h
          obtain ⟨⟨⟨h1, rfl⟩, h2⟩, h3⟩ := h
          obtain rfl := isNil_eq h1
          exact s_rse xs h2 h3
        · cases h
      · cases h
    · cases h
  | .tryF x f i b k', C, [], h, X, ad, N, G, k, xs => nomatch h
  | .tryF x f i b k', C, s :: ss, h, X, ad, N, G, k, xs => by
    rw [ckB] at h
    split at h
    · rename_i b' cl n st p0 p q
      obtain rfl := wTry_inv q
      split at h
      · rename_i y p1 rv p2 q1 q2
        obtain rfl := vName_inv q1
        obtain rfl := wReturn_inv q2
        split at h
        · rename_i g ar p3 q3
          obtain rfl := vCall_inv q3
          split at h
          · rename_i g' p4 n' p5 q4 q5
            obtain rfl := vName_inv q4
            obtain rfl := vName_inv q5
            simp only [Bool.and_eq_true, decide_eq_true_eq, Bool.not_eq_true'] at h
            obtain ⟨⟨⟨⟨⟨⟨⟨⟨⟨⟨⟨⟨rfl, h1⟩, h2⟩, rfl⟩, h3⟩, h4⟩, rfl⟩, h5⟩, h6⟩, h7⟩, h8⟩, h9⟩, ha⟩ := h
            exact s_tryF xs h1 h2 h3 h4 h5 h6 h7 h8 (fun W pn xe t o => ckB_snd b C b' h9 (xs.tr t o)) (ckB_snd k' C ss ha xs)
          · cases h
        · cases h
      · cases h
    · cases h
  | .par3 _ _ _ _ _ _ _, C, ss, h, X, ad, N, G, k, xs => nomatch h
  | .aug _ _ _ _, C, ss, h, X, ad, N, G, k, xs => nomatch h
  | .app i e k', C, [], h, X, ad, N, G, k, xs => nomatch h
  | .app i e k', C, s :: ss, h, X, ad, N, G, k, xs => by
    rw [ckB] at h
    split at h
    · rename_i x p q
      obtain rfl := wExpr_inv q
      split at h
      · rename_i n l pos q2
        obtain rfl := vCall_inv q2
        split at h
        · rename_i r y apos q3
          obtain rfl := vAttribute_inv q3
          simp only [Bool.and_eq_true, decide_eq_true_eq, Bool.not_eq_true'] at h
          obtain ⟨⟨⟨⟨⟨rfl, h1⟩, h2⟩, h3⟩, h4⟩, h5⟩ := h
          obtain ⟨z, p2, rfl, hv⟩ := pvar_of xs.toXF h2
          exact s_app (ea := evE G e false) (ek := evB G k') hv (ckE_snd e C l h4 xs.toXF false) h3 h1 (ckB_snd k' C ss h5 xs)
        · cases h
      · cases h
    · cases h
  | .forD p i b k', C, [], h, X, ad, N, G, k, xs => nomatch h
  | .forD p i b k', C, s :: ss, h, X, ad, N, G, k, xs => by
    rw [ckB] at h
    split at h
    · rename_i tg it' b' pos q
      obtain rfl := wFor_inv q
      simp only [Bool.and_eq_true] at h
      obtain ⟨⟨⟨h1, h2⟩, h3⟩, h4⟩ := h
      obtain ⟨z, p2, rfl, hv⟩ := pvar_of xs.toXF h1
      exact s_forD (eb := evB G b) (ek := evB G k') xs.own xs.calm hv (ckP_snd p C tg h2 xs.toXF) (ckB_snd b C b' h3 xs) (ckB_snd k' C ss h4 xs)
    · cases h
  | .ext _ _ _, C, ss, h, X, ad, N, G, k, xs => nomatch h
  | .setI _ _ _ _, C, ss, h, X, ad, N, G, k, xs => nomatch h
  | .augI _ _ _ _ _, C, ss, h, X, ad, N, G, k, xs => nomatch h
  | .popS _ _ _, C, ss, h, X, ad, N, G, k, xs => nomatch h
  | .popD _ _ _ _, C, ss, h, X, ad, N, G, k, xs => nomatch h
  | .whl _ _ _, C, ss, h, X, ad, N, G, k, xs => nomatch h
end Cr
/-! A whole program of the core language: each def of it does what its text says. -/
namespace Cr
open PySem PySem.Spec PyProof.Rows L2 L2H

/-- a def: its name, its slots' names (the parameters first), how many parameters, its text -/
structure DD where
  nm : Str
  N : List Str
  n : Nat
  body : CS
structure Pr where
  ds : List DD
  cons : List (Str × D)
  bl : List Str
  exc : List Str
  tcl : List Str
  flg : List (Str × Str × List Str)
  err : List Str
  isub : Str → Str → Bool
  fuel : Nat

def Pr.base (p : Pr) : Cfg where
  fns := fun _ => none
  cons := fun x => p.cons.lookup x
  fuel := p.fuel
  sub := fun e x => if p.err.contains e && p.tcl.contains x then some (p.isub e x) else none
  flg := fun f e => if p.err.contains e then (p.flg.lookup f).map fun q => .lst (q.2.map fun c => .bl (p.isub e c)) else none
def Pr.find (p : Pr) (x : Str) : Option DD := p.ds.find? fun d => d.nm == x
/-- the calls' depth is j at most -/
def Pr.at (p : Pr) : Nat → Cfg
  | 0 => { p.base with fns := fun x => (p.find x).map fun _ => fun _ _ => .bad }
  | j + 1 => { p.base with fns := fun x => (p.find x).map fun d => callD (p.at j) d.N.length d.body }
def Pr.ct (p : Pr) (d : DD) (sc : Scope) : Ct := ⟨d.N, sc, none, p.ds.map fun d => (d.nm, d.n), p.cons.map (·.1), p.bl, p.exc, p.tcl, p.flg.map (·.1)⟩

theorem mem_of {l : List Str} {x : Str} (h : l.contains x = true) : x ∈ l := by simpa using h
/-- a constant that is no object -/
def conV : D → Option V
  | .non => some .non
  | .bl b => some (.bl b)
  | .int i => some (.int i)
  | .str s => some (.str s)
  | _ => none
theorem conV_rep {g : Gd} {F : Hp} {d : D} {v : V} (h : conV d = some v) : Rep g F d v := by
  cases d <;> first | (cases h; rfl) | cases h

structure PrOk (p : Pr) (K : PySem.W.Frag) (mg : Str → Option Value) : Prop where
  ds : ∀ d ∈ p.ds, ∃ (f : Addr) (fd : FuncData) (pr : Arguments) (bd : List Stmt) (sc : Scope), FunD K d.nm d.nm pr bd sc [] [] f fd ∧ mg d.nm = some (.ref f) ∧ FnScope d.N (d.N.take d.n) sc ∧ Binds K fd (d.N.take d.n) [] ∧ ckB d.body (p.ct d sc) bd = true ∧ d.n ≤ d.N.length
  uniq : ∀ d ∈ p.ds, p.find d.nm = some d
  bl : ∀ x ∈ p.bl, mg x = none
  cons : ∀ x d, p.cons.lookup x = some d → ∃ v u, mg x = some u ∧ RelV v u ∧ conV d = some v
  exc : ∀ x ∈ p.exc, ∃ (Ca : Addr) (B n i : String) (bm : List Value), ExcBaseFacts B n i bm ∧ PySem.W.excIn K Ca bm n = true ∧ mg x = some (.ref Ca) ∧ PySem.W.keepIn K (.ref Ca) = true ∧ PySem.W.subIn K (.ref Ca) (.type "BaseException") = some true ∧ PySem.W.typeIn K (.ref Ca) = some (.type "type")
  tcl : ∀ x ∈ p.tcl, ∃ c, mg x = some c ∧ ∀ e ∈ p.err, ∀ cls, mg e = some cls → PySem.W.exmOne K cls c = some (p.isub e x)
  err : ∀ e ∈ p.err, ∃ Da : Addr, mg e = some (.ref Da) ∧ ExcC K Da ∧ ∀ q ∈ p.flg, ∀ c ∈ q.2.2, ∃ Dc : Addr, mg c = some (.ref Dc) ∧ PySem.W.kitOne K (.ref Da) (.ref Dc) = some (p.isub e c)
  flg : ∀ q ∈ p.flg, ∃ (f : Addr) (fd : FuncData) (pr : Arguments) (bd : List Stmt) (sc : Scope), FunD K q.1 q.1 pr bd sc [] [] f fd ∧ mg q.1 = some (.ref f) ∧ FnScope [q.2.1] [q.2.1] sc ∧ Binds K fd [q.2.1] [] ∧ flBody q.2.1 bd = some q.2.2 ∧
    sc.names.lookup ("isinstance" : Str) = some .globalImplicit ∧ (∀ c ∈ q.2.2, sc.names.lookup c = some .globalImplicit ∧ (c == ("__debug__" : Str)) = false) ∧ (visB sc q.2.1 = true ∧ (q.2.1 == ("__debug__" : Str)) = false ∧ (q.2.1 == ("__classdict__" : Str)) = false) ∧ mg "isinstance" = none ∧ q.2.2.length ≤ sizeLine

def FnX (P : Program) (w : World) (K : PySem.W.Frag) (mg : Str → Option Value) (base : Heap) (k : Nat) (x : Str) (n : Nat) (fn : List D → List Int → Res D) : Prop :=
  ∃ f fd ps, mg x = some (.ref f) ∧ PySem.W.keepIn K (.ref f) = true ∧ Binds K fd ps [] ∧ FnOk P w K mg base (L2N.CX P w) k f fd ps (spD K mg n fn)

theorem Pr.at_sub (p : Pr) (j : Nat) : (p.at j).sub = p.base.sub := by cases j <;> rfl
theorem Pr.at_flg (p : Pr) (j : Nat) : (p.at j).flg = p.base.flg := by cases j <;> rfl
theorem Pr.at_cons (p : Pr) (j : Nat) : (p.at j).cons = p.base.cons := by cases j <;> rfl
theorem lookup_ds {ds : List DD} {x : Str} {n : Nat} (h : (ds.map fun d => (d.nm, d.n)).lookup x = some n) : ∃ d ∈ ds, d.nm = x ∧ d.n = n := by
  have := PySem.mem_of_lookup h
  obtain ⟨d, hd, e⟩ := List.mem_map.mp this
  cases e
  exact ⟨d, hd, rfl, rfl⟩
theorem kits_of {K : PySem.W.Frag} {mg : Str → Option Value} {Da : Addr} {f : Str → Bool} : ∀ {cs : List Str}, (∀ c ∈ cs, ∃ Dc : Addr, mg c = some (.ref Dc) ∧ PySem.W.kitOne K (.ref Da) (.ref Dc) = some (f c)) → kits K mg Da cs (cs.map f)
  | [], _ => rfl
  | c :: cs, h => by
    obtain ⟨Dc, e1, e2⟩ := h c List.mem_cons_self
    exact ⟨_, _, Dc, rfl, e1, e2, kits_of fun c hc => h c (List.mem_cons_of_mem _ hc)⟩
theorem start_get {g : Gd} {F : Hp} : ∀ {ds : List D} {vs : List V} (r : Reps g F ds vs) (m i : Nat), match get (ds.map Sl.val ++ List.replicate m Sl.no) i with
    | .val d => ∃ v, (vs.map some ++ List.replicate m none)[i]? = some (some v) ∧ Rep g F d v
    | .own _ => False
    | .no => True
  | [], vs, r, m, i => by
    cases (show vs = [] from r)
    have : get (([] : List D).map Sl.val ++ List.replicate m Sl.no) i = .no := by
      unfold get
      rw [List.map_nil, List.nil_append, List.getD_eq_getElem?_getD, List.getElem?_replicate]
      split <;> rfl
    rw [this]
    trivial
  | d :: ds, _, r, m, 0 => by
    obtain ⟨v, vs, rfl, r1, r2⟩ := r
    exact ⟨v, rfl, r1⟩
  | d :: ds, _, r, m, i + 1 => by
    obtain ⟨v, vs, rfl, r1, r2⟩ := r
    exact start_get r2 m i
theorem start_ok {g : Gd} {F H : Hp} {ds : List D} {vs : List V} {dr : List Int} {N : List Str} (po : Post g F H F H dr) (r : Reps g F ds vs) : StR g F H (L2.start N vs) (ds.map .val ++ List.replicate (N.length - ds.length) .no) F H dr := by
  have hl := r.len
  unfold L2.start
  rw [hl]
  refine ⟨po, by simp [hl], fun i => ?_, fun i j d e p h1 h2 h3 h4 => ?_⟩
  · have := start_get r (N.length - ds.length) i
    revert this
    cases get (ds.map Sl.val ++ List.replicate (N.length - ds.length) Sl.no) i with
    | no => exact fun _ => trivial
    | val d => exact fun h => h
    | own d => exact fun h => h.elim
  · have := start_get r (N.length - ds.length) i
    rw [h1] at this
    exact this.elim
section
variable {p : Pr} {P : Program} {w : World} {K : PySem.W.Frag} {mg : Str → Option Value} {base : Heap}
theorem xs_of (ok : PrOk p K mg) {d : DD} {sc : Scope} (S : FnScope d.N (d.N.take d.n) sc) {j : Nat} (ih : ∀ d ∈ p.ds, ∃ fn, (p.at j).fns d.nm = some fn ∧ FnX P w K mg base (j + 1) d.nm d.n fn) {f : Addr} {cdv : Value} {A : Around} {outer : List PySem.Env} {s : Shared} {H : Hp} {E : XK} {ad : Option Addr} {F H0 : Hp}
    (hr : Room (j + 1) (A.deeper (envOfC d.nm sc s.heap.objs.size f cdv))) : XS (cxOf (L2N.CX P w) P w K mg base d.N d.nm sc f cdv A outer s H E) ad ⟨F, H0, fun cls dd _ H => E cls dd H⟩ (p.at j) (j + 1) (p.ct d sc) where
  calm := rfl
  nd := S.nd
  eN := rfl
  sc := rfl
  room := hr
  fns := fun x n h => by
    obtain ⟨d', hd', rfl, rfl⟩ := lookup_ds h
    obtain ⟨fn, e, f, fd, ps, h1, h2, h3, h4⟩ := ih d' hd'
    exact ⟨fn, e, ⟨f, fd, ps, h1, h2, h3, h4⟩⟩
  mgb := fun x h => ok.bl x (mem_of h)
  cons := fun x h => by
    have hx : x ∈ p.cons.map (·.1) := mem_of h
    obtain ⟨q, hq, rfl⟩ := List.mem_map.mp hx
    cases e : p.cons.lookup q.1 with
    | none =>
      rw [List.lookup_eq_none_iff] at e
      have := e q hq
      simp at this
    | some d =>
      obtain ⟨v, u, h1, h2, h3⟩ := ok.cons _ d e
      exact ⟨d, v, u, by rw [Pr.at_cons]; exact e, h1, h2, fun F => conV_rep h3⟩
  tk := fun σ => L2N.passAt (L2N.takes_of rfl rfl rfl rfl) σ
  top := fun _ _ => rfl
  blk := fun s h => nomatch h
  one := Nat.succ_le_succ (Nat.zero_le _)
  raw := rfl
  stk := rfl
  frm := rfl
  own := passes_of rfl
  tk2 := L2N.takes_of rfl rfl rfl rfl
  exc := fun x h => by
    obtain ⟨Ca, B, n, i, bm, f1, f2, f3, f4, f5, f6⟩ := ok.exc x (mem_of h)
    exact ⟨Ca, B, n, i, bm, f1, f2, f3, f4, raises_own f5 f6⟩
  sub := fun x h => by
    obtain ⟨c, h1, h2⟩ := ok.tcl x (mem_of h)
    refine ⟨c, .inl h1, fun e b cls h3 h4 => ?_⟩
    rw [Pr.at_sub] at h3
    have h3 : (if p.err.contains e && p.tcl.contains x then some (p.isub e x) else none) = some b := h3
    split at h3
    · rename_i hh
      cases h3
      rw [Bool.and_eq_true] at hh
      exact h2 e (by simpa using hh.1) cls h4
    · cases h3
  flg := fun f h => by
    have hx : f ∈ p.flg.map (·.1) := mem_of h
    obtain ⟨q, hq, rfl⟩ := List.mem_map.mp hx
    cases e : p.flg.lookup q.1 with
    | none =>
      rw [List.lookup_eq_none_iff] at e
      have := e q hq
      simp at this
    | some t =>
      have hq2 := PySem.mem_of_lookup e
      obtain ⟨fa, fd, pr, bd, sc2, F1, F2, F3, F4, F5, F6, F7, F8, F9, F10⟩ := ok.flg _ hq2
      refine ⟨fa, fd, t.1, F2, F1.kp, F4, fun cls d Dv h1 h2 => ?_⟩
      rw [Pr.at_flg] at h1
      have h1 : (if p.err.contains cls then (p.flg.lookup q.1).map fun q => D.lst (q.2.map fun c => D.bl (p.isub cls c)) else none) = some d := h1
      split at h1
      · rename_i hc
        rw [e] at h1
        cases h1
        obtain ⟨Da, e1, e2, e3⟩ := ok.err cls (by simpa using hc)
        have e4 : some (Value.ref Da) = some Dv := e1.symm.trans h2
        cases e4
        refine ⟨Nat.succ_le_succ (Nat.zero_le _), Da, t.2.map (p.isub cls), rfl, by rw [List.map_map]; rfl, by rw [List.length_map]; exact F10, fun a ob hz hf => ?_⟩
        exact fl_ok F1 F3 F5 e2 hz hf (kits_of fun c hc => e3 _ hq2 c hc) F6 F7 F8 F9 (by rw [List.length_map]; exact F10)
      · cases h1
theorem all_ok (ok : PrOk p K mg) : ∀ (j : Nat), ∀ d ∈ p.ds, ∃ fn, (p.at j).fns d.nm = some fn ∧ FnX P w K mg base (j + 1) d.nm d.n fn
  | 0, d, hd => by
    obtain ⟨f, fd, pr, bd, sc, F, hm, S, hb, hck, hn⟩ := ok.ds d hd
    refine ⟨fun _ _ => .bad, ?_, f, fd, _, hm, F.kp, hb, ⟨fun vs H Q E h => ?_, fun _ _ _ _ _ _ _ _ _ _ _ _ _ h => ?_⟩⟩
    · show (p.find d.nm).map _ = _
      rw [ok.uniq d hd]
      rfl
    · rw [List.length_take, Nat.min_eq_left hn]
      exact h.1
    · obtain ⟨_, _, _, _, _, _, _, _, _, z⟩ := h
      exact z.elim
  | j + 1, d, hd => by
    obtain ⟨f, fd, pr, bd, sc, F, hm, S, hb, hck, hn⟩ := ok.ds d hd
    have ih := all_ok ok j
    refine ⟨callD (p.at j) d.N.length d.body, ?_, f, fd, _, hm, F.kp, hb, ?_⟩
    · show (p.find d.nm).map _ = _
      rw [ok.uniq d hd]
      rfl
    · refine F.ok S (fun vs H Q E h => ?_) fun cdv A outer s H vs Q E hr h => ?_
      · rw [List.length_take, Nat.min_eq_left hn]
        exact h.1
      · obtain ⟨hl, ad, F0, ds, dr, sb, fd0, hd0, r, k⟩ := h
        have xs := xs_of (P := P) (w := w) (base := base) (outer := outer) (E := E) (ad := ad) (F := F0) (H0 := H) (H := H) ok S ih hr
        refine ⟨_, ckB_snd d.body _ bd hck xs, ?_⟩
        have po : Post ⟨K, mg, ad⟩ F0 H F0 H dr := Post.refl sb fd0 hd0
        refine ⟨ds.map Sl.val ++ List.replicate (d.N.length - ds.length) Sl.no, F0, dr, start_ok (N := d.N) po r, ?_⟩
        unfold callD at k
        split at k
        · refine (post_bind k).imp (fun fl dr1 z => ?_) fun _ _ z cls dd _ H1 F1 a b => z cls dd H1 F1 a b
          cases fl with
          | nx env => exact fun σ' H' F' st2 s2 => z .non H' F' st2.po rfl
          | rt d => exact z
          | bk env => exact z.elim
          | ct env => exact z.elim
        · exact k.elim
end
end Cr
/-! The law's own def: the draws are made of the script, the rest is of the core language. -/
namespace Cr
open PySem PySem.Spec PyProof.Rows L2 L2H

/-- draws = _law_draws(script), then the rest -/
def lawRest (C : Ct) : List Stmt → Option (List Stmt)
  | s :: rest => match wAssign s with
    | some ([t], v, _) => (match vName t, vCall v with
      | some (y, _), some (g, [a], [], _) => (match vName g, vName a with
        | some (f, _), some (x, _) => if (decide (C.N[0]? = some x) && visB C.sc x && !(x == ("__debug__" : Str)) && !(x == ("__classdict__" : Str)) && decide (C.N[1]? = some y) && locB C.sc y && decide (f = ("_law_draws" : Str)) && gloB C f) = true then some rest else none
        | _, _ => none)
      | _, _ => none)
    | _ => none
  | [] => none
theorem lawRest_inv {C : Ct} {bd rest : List Stmt} (h : lawRest C bd = some rest) : ∃ (x y : Str) (p1 p2 p3 p4 p5 : Pos), bd = .Assign [.Name y p1] (.Call (.Name "_law_draws" p2) [.Name x p3] [] p4) p5 :: rest ∧ C.N[0]? = some x ∧ visB C.sc x = true ∧ (x == ("__debug__" : Str)) = false ∧ (x == ("__classdict__" : Str)) = false ∧ C.N[1]? = some y ∧ locB C.sc y = true ∧ gloB C "_law_draws" = true := by
  match bd, h with
  | s :: r, h0 =>
    clear h
    have h : (match wAssign s with
      | some ([t], v, _) => (match vName t, vCall v with
        | some (y, _), some (g, [a], [], _) => (match vName g, vName a with
          | some (f, _), some (x, _) => if (decide (C.N[0]? = some x) && visB C.sc x && !(x == ("__debug__" : Str)) && !(x == ("__classdict__" : Str)) && decide (C.N[1]? = some y) && locB C.sc y && decide (f = ("_law_draws" : Str)) && gloB C f) = true then some r else none
          | _, _ => none)
        | _, _ => none)
      | _ => none) = some rest := h0
    clear h0
    split at h
    · rename_i t v p q
      obtain rfl := wAssign_inv q
      split at h
      · rename_i y p1 g a p2 q1 q2
        obtain rfl := vName_inv q1
        obtain rfl := vCall_inv q2
        split at h
        · rename_i f p3 x p4 q3 q4
          obtain rfl := vName_inv q3
          obtain rfl := vName_inv q4
          split at h
          · rename_i hh
            cases h
            simp only [Bool.and_eq_true, decide_eq_true_eq, Bool.not_eq_true'] at hh
            obtain ⟨⟨⟨⟨⟨⟨⟨h1, h2⟩, h3⟩, h4⟩, h5⟩, h6⟩, rfl⟩, h7⟩ := hh
            exact ⟨x, y, _, _, _, _, _, rfl, h1, h2, h3, h4, h5, h6, h7⟩
          · cases h
        · cases h
      · cases h
    · cases h
/-- what the law's def promises -/
def spLaw (K : PySem.W.Frag) : Sp := fun vs H Q _ => ∃ (a : Addr) (ns : List Int), vs = [.ref a] ∧ ns.length ≤ 63 ∧ SqL K H a (ns.map V.int) ∧ ∀ H', Q (.bl true) H'
theorem ints_map (js : List Int) : intsOf (js.map .int) = some js := by
  induction js with
  | nil => rfl
  | cons j js ih =>
    show (intsOf (js.map .int)).map (j :: ·) = _
    rw [ih]
    rfl
section
variable {p : Pr} {P : Program} {w : World} {K : PySem.W.Frag} {mg : Str → Option Value} {base : Heap}
theorem law_ok (ok : PrOk p K mg) {dd d : DD} (hdd : dd ∈ p.ds) (hnm : dd.nm = "_law_draws") (hn1 : dd.n = 1) {pr : Arguments} {bd rest : List Stmt} {sc : Scope} {f : Addr} {fd : FuncData} (F : FunD K "law" "law" pr bd sc [] [] f fd) (S : FnScope d.N (d.N.take d.n) sc) (hdn : d.nm = "law") (hd1 : d.N.take d.n = [("script" : Str)])
    (hr : lawRest (p.ct d sc) bd = some rest) (hck : ckB d.body (p.ct d sc) rest = true) (i : Nat)
    (hd : ∀ is : List Int, is.length ≤ 63 → ∃ js : List Int, callD (p.at i) dd.N.length dd.body [.ilst is] [] = .ok (.lst (js.map .int)) [])
    (hl : ∀ js : List Int, ∃ dr', evB (p.at (i + 1)) d.body (.no :: .val .drw :: List.replicate (d.N.length - 2) .no) js.reverse = .ok (.rt (.bl true)) dr') :
    FnOk P w K mg base (L2N.CX P w) (i + 3) f fd [("script" : Str)] (spLaw K) := by
  obtain ⟨x, y, p1, p2, p3, p4, p5, rfl, n0, v0, v1, v2, n1, l1, g0⟩ := lawRest_inv hr
  have S' : FnScope d.N [("script" : Str)] sc := by rw [← hd1]; exact S
  have ih := all_ok (P := P) (w := w) (base := base) ok (i + 1)
  obtain ⟨fn, e1, fa, fd2, ps, m1, m2, m3, m4⟩ := ih dd hdd
  have e2 : (p.at (i + 1)).fns dd.nm = some (callD (p.at i) dd.N.length dd.body) := by
    show (p.find dd.nm).map _ = _
    rw [ok.uniq dd hdd]
    rfl
  rw [e2] at e1
  cases e1
  rw [hnm] at m1
  refine F.ok S' (fun vs H Q E h => ?_) fun cdv A outer s H vs Q E hroom h => ?_
  · obtain ⟨a, ns, rfl, _⟩ := h
    rfl
  · obtain ⟨a, ns, rfl, hl63, hS, hQ⟩ := h
    rw [hn1] at m4
    have hroom' : Room (i + 1 + 1) (A.deeper (envOfC d.nm sc s.heap.objs.size f cdv)) := by rw [hdn]; exact hroom
    have hroom2 : Room (i + 1 + 1) (A.deeper (envOfC "law" sc s.heap.objs.size f cdv)) := hroom
    have xs : ∀ (ad : Option Addr) (F0 H0 : Hp), XS (cxOf (L2N.CX P w) P w K mg base d.N "law" sc f cdv A outer s H E) ad ⟨F0, H0, fun cls dd _ H => E cls dd H⟩ (p.at (i + 1)) (i + 1 + 1) (p.ct d sc) := fun ad F0 H0 => by
      have := xs_of (P := P) (w := w) (base := base) (outer := outer) (E := E) (ad := ad) (F := F0) (H0 := H0) (H := H) (f := f) (cdv := cdv) (A := A) (s := s) ok S ih (by rw [hdn]; exact hroom2)
      rw [hdn] at this
      exact this
    have xf := (xs none H H).toXF
    obtain ⟨g1, g2, _⟩ := gl_of xf g0
    have hv : PE (cxOf (L2N.CX P w) P w K mg base d.N "law" sc f cdv A outer s H E) (.Name x p3) (tVar 0) := pe_var n0 (vis_of v0) v1 v2
    have hcall := pe_callS (pos := p4) (E := WE (fun cls dd _ H => E cls dd H)) (p := p2) m4 xf.room g1 m1 m2 m3 xf.tk (pa_cons hv pa_nil rfl) g2 rfl rfl
    have hset := ps_set (pos := p5) (pos' := p1) S.nd n1 (loc_of l1) hcall rfl (.inl rfl)
    have hrest : PSs (cxOf (L2N.CX P w) P w K mg base d.N "law" sc f cdv A outer s H E) rest (fun D σ H1 => ∃ (ad : Option Addr) (F0 H0 : Hp), tS (gd (cxOf (L2N.CX P w) P w K mg base d.N "law" sc f cdv A outer s H E) ad) ⟨F0, H0, fun cls dd _ H => E cls dd H⟩ (evB (p.at (i + 1)) d.body) D σ H1) :=
      ⟨fun pins s σ H D I ⟨ad, F0, H0, q⟩ => (ckB_snd d.body _ rest hck (xs ad F0 H0)).run pins s σ H D I q⟩
    refine ⟨_, pss_cons hset hrest, ?_⟩
    obtain ⟨js, hjs⟩ := hd ns hl63
    obtain ⟨dr', hev⟩ := hl js
    have hlen : ns.length ≤ sizeLine := by rw [sizeLine_eq]; omega
    have hN : 2 ≤ d.N.length := by
      have := (List.getElem?_eq_some_iff.mp n1).1
      exact this
    refine ⟨.ref a, ?_, rfl, none, H, [.ilst ns], [], Same.refl _, (fun _ z => nomatch z), (fun _ z => nomatch z), Reps.cons ⟨hlen, a, rfl, hS⟩ Reps.nil, ?_⟩
    · show (start d.N [.ref a])[0]? = _
      rfl
    · rw [hjs]
      show ∀ v H' F', _ → _ → _
      intro v H' F' po rv
      obtain ⟨lj, q, vs, rfl, hq, t⟩ := rv
      rw [t.ints (ints_map js)] at hq
      have hq2 := po.s _ _ hq
      refine ⟨some q, fun _ => none, H', .no :: .val .drw :: List.replicate (d.N.length - 2) .no, fun _ => none, js.reverse, ⟨Post.refl (fun _ _ z => nomatch z) (fun _ _ => rfl) (fun c hc => by cases hc; rw [List.reverse_reverse]; exact hq2), ?_, fun i => ?_, fun i j d9 e p h1 => ?_⟩, ?_⟩
      · show ((L2.start d.N [.ref a]).set 1 _).length = _
        unfold L2.start
        simp
        omega
      · match i with
        | 0 => trivial
        | 1 =>
          show ∃ v, ((L2.start d.N [.ref a]).set 1 (some (.ref q)))[1]? = some (some v) ∧ _
          refine ⟨.ref q, ?_, q, rfl, rfl⟩
          rw [List.getElem?_set_self]
          unfold L2.start
          simp
          omega
        | i + 2 =>
          have : get (.no :: .val .drw :: List.replicate (d.N.length - 2) .no) (i + 2) = .no := by
            show (List.replicate (d.N.length - 2) Sl.no).getD i .no = .no
            rw [List.getD_eq_getElem?_getD, List.getElem?_replicate]
            split <;> rfl
          rw [this]
          trivial
      · match i, h1 with
        | 0, h1 => cases h1
        | 1, h1 => cases h1
        | i + 2, h1 =>
          have : get (.no :: .val .drw :: List.replicate (d.N.length - 2) .no) (i + 2) = .no := by
            show (List.replicate _ Sl.no).getD i .no = .no
            rw [List.getD_eq_getElem?_getD, List.getElem?_replicate]
            split <;> rfl
          rw [this] at h1
          cases h1
      · rw [hev]
        intro v H2 F2 _ r2
        cases (show v = .bl true from r2)
        exact hQ H2
/-- nothing leaves the law's def -/
theorem law_ok0 {k : Nat} {f : Addr} {fd : FuncData} {ps : List Str} (F : FnOk P w K mg base (L2N.CX P w) k f fd ps (spLaw K)) : FnOk P w K mg base L2.CX0 k f fd ps (spLaw K) := by
  refine ⟨F.len, fun A outer s H args us vs Q E hr e0 hb hv h => ?_⟩
  refine codeAny_mono (F.run A outer s H args us vs Q (fun _ _ _ => False) hr e0 hb hv h) fun r s' hq => ?_
  cases r with
  | error e =>
    obtain ⟨_, _, _, _, _, _, _, _, _, _, _, _, z⟩ := (show L2N.CX P w outer H s (fun _ _ _ => False) e s' from hq)
    exact z.elim
  | ok fl => cases fl <;> exact hq
end
end Cr
/-! From the head's facts to the program's. -/
namespace Cr
open PySem PySem.Spec PyProof.Rows L2 L2H

/-- a row of the program's table: its text held against the def's -/
structure RowOk (p : Pr) (dd : DD) (df : He.DefD) : Prop where
  at_ : df.at_ = (dd.nm, none)
  nm : df.name = dd.nm
  qn : df.qual = dd.nm
  d0 : df.dfl = []
  k0 : df.kwd = []
  sc : FnScope dd.N (dd.N.take dd.n) df.scope
  bi : ∀ (kV doc pm : Value) (an : Option Addr) (cdv ct : Value) (us : List Value), us.length = (dd.N.take dd.n).length → bindArgs (PySem.W.fnOf dd.nm dd.nm df.params df.body df.scope .none kV doc pm an cdv ct) ⟨us, []⟩ = pure ((dd.N.take dd.n).zip us)
  ck : ckB dd.body (p.ct dd df.scope) df.body = true
  le : dd.n ≤ dd.N.length
/-- a def of flags -/
structure FlgOk (q : Str × Str × List Str) (df : He.DefD) : Prop where
  at_ : df.at_ = (q.1, none)
  nm : df.name = q.1
  qn : df.qual = q.1
  d0 : df.dfl = []
  k0 : df.kwd = []
  sc : FnScope [q.2.1] [q.2.1] df.scope
  bi : ∀ (kV doc pm : Value) (an : Option Addr) (cdv ct : Value) (us : List Value), us.length = [q.2.1].length → bindArgs (PySem.W.fnOf q.1 q.1 df.params df.body df.scope .none kV doc pm an cdv ct) ⟨us, []⟩ = pure ([q.2.1].zip us)
  fl : flBody q.2.1 df.body = some q.2.2
  g1 : df.scope.names.lookup ("isinstance" : Str) = some .globalImplicit
  g2 : q.2.2.all (fun c => decide (df.scope.names.lookup c = some .globalImplicit) && !(c == ("__debug__" : Str))) = true
  g3 : (visB df.scope q.2.1 && !(q.2.1 == ("__debug__" : Str)) && !(q.2.1 == ("__classdict__" : Str)) && decide (q.2.2.length ≤ 1000)) = true
def faCon (q : Str × D) : He.Fa := match q.2 with
  | .int i => .int q.1 i
  | .str s => .str q.1 s
  | _ => .glo q.1
def conB (q : Str × D) : Bool := match q.2 with
  | .int _ => true
  | .str _ => true
  | _ => false
/-- the facts that the head is asked for -/
def faOf (p : Pr) : List He.Fa := p.ds.map (fun d => .glo d.nm) ++ (p.flg.map (fun q => .glo q.1) ++ (p.bl.map .free ++ (p.cons.map faCon ++ (p.exc.map .glo ++ (p.exc.map .exc ++ (p.tcl.map .glo ++ (p.err.map .glo ++ ((p.flg.flatMap fun q => q.2.2.map .glo) ++
  (p.err.flatMap fun e => p.tcl.map fun x => .exm e x (p.isub e x))))))))))
/-- what else the head is asked for: how the own errors answer isinstance -/
def exB (p : Pr) (K : PySem.W.Frag) : Bool := p.err.all fun e => decide (PySem.W.findIn K (.ref (He.ga K e)) "__getattribute__" = some (some (.builtin "BaseException.__getattribute__"))) && decide (PySem.W.findIn K (.ref (He.ga K e)) "__getattr__" = some none) &&
  decide (PySem.W.subIn K (.ref (He.ga K e)) (.type "BaseException") = some true) && PySem.W.hasDictIn K (He.ga K e) && decide (PySem.W.findIn K (.ref (He.ga K e)) "__class__" = some (some (.builtin "object.__class__"))) && decide (PySem.W.specialIn K (.builtin "object.__class__") "__get__" = some (some (.builtin "getset_descriptor.__get__"))) &&
  decide (PySem.W.takesIn K (.builtin "object.__class__") = some true) && decide (PySem.W.mroIn K (He.ga K e) (.type "object") = some true) && p.flg.all fun q => q.2.2.all fun c => decide (PySem.W.kitOne K (.ref (He.ga K e)) (.ref (He.ga K c)) = some (p.isub e c))
theorem find_nd : ∀ {ds : List DD} {d : DD}, (ds.map (·.nm)).Nodup → d ∈ ds → ds.find? (fun e => e.nm == d.nm) = some d
  | e :: ds, d, hn, hd => by
    rw [List.map_cons, List.nodup_cons] at hn
    rw [List.find?_cons]
    rcases List.mem_cons.mp hd with rfl | hd
    · simp
    · have hne : (e.nm == d.nm) = false := by
        cases q : e.nm == d.nm with
        | false => rfl
        | true => exact absurd (List.mem_map.mpr ⟨d, hd, (by simpa using q : e.nm = d.nm).symm⟩) hn.1
      rw [hne]
      exact find_nd hn.2 hd
theorem prOk_of {p : Pr} {K : PySem.W.Frag} {h : Heap} {mg : Str → Option Value} (X : K.In h) (G : h.Ns mainGlobals mg) (fact : ∀ f ∈ faOf p, f.ok K = true) (ex : exB p K = true)
    (rows : ∀ d ∈ p.ds, ∃ df : He.DefD, RowOk p d df ∧ ∃ fd, FunD K df.name df.qual df.params df.body df.scope (df.dvs K) (df.kws K) (He.fAd K df.at_) fd)
    (flgs : ∀ q ∈ p.flg, ∃ df : He.DefD, FlgOk q df ∧ ∃ fd, FunD K df.name df.qual df.params df.body df.scope (df.dvs K) (df.kws K) (He.fAd K df.at_) fd)
    (nd : (p.ds.map (·.nm)).Nodup) (cn : p.cons.all conB = true) (isi : p.flg = [] ∨ p.bl.contains "isinstance" = true) : PrOk p K mg := by
  have glo : ∀ x : Str, He.Fa.glo x ∈ faOf p → mg x = some (.ref (He.ga K x)) := fun x hx => He.glo_ok X G (fact _ hx)
  have fre : ∀ x ∈ p.bl, mg x = none := fun x hx => He.free_ok X G (fact (.free x) (by
    unfold faOf
    simp only [List.mem_append, List.mem_map]
    exact .inr (.inr (.inl ⟨x, hx, rfl⟩))))
  have exs := List.all_eq_true.mp ex
  refine ⟨fun d hd => ?_, fun d hd => find_nd nd hd, fre, fun x dd hx => ?_, fun x hx => ?_, fun x hx => ?_, fun e he => ?_, fun q hq => ?_⟩
  · obtain ⟨df, R, fd, F⟩ := rows d hd
    have e1 : He.DefD.dvs K df = [] := by unfold He.DefD.dvs; rw [R.d0]; rfl
    have e2 : He.DefD.kws K df = [] := by unfold He.DefD.kws; rw [R.k0]; rfl
    rw [R.nm, R.qn, e1, e2, R.at_] at F
    refine ⟨_, fd, _, _, _, F, glo d.nm ?_, R.sc, F.bindsN R.bi, R.ck, R.le⟩
    unfold faOf
    simp only [List.mem_append, List.mem_map]
    exact .inl ⟨d, hd, rfl⟩
  · have hm := PySem.mem_of_lookup hx
    have hc := List.all_eq_true.mp cn _ hm
    have hf : faCon (x, dd) ∈ faOf p := by
      unfold faOf
      simp only [List.mem_append, List.mem_map]
      exact .inr (.inr (.inr (.inl ⟨_, hm, rfl⟩)))
    cases dd with
    | int i =>
      obtain ⟨t, e⟩ := He.int_ok X G (fact (.int x i) hf)
      exact ⟨.int i, _, e, ⟨t, rfl⟩, rfl⟩
    | str z =>
      obtain ⟨t, e⟩ := He.str_ok X G (fact (.str x z) hf)
      exact ⟨.str z, _, e, ⟨t, rfl⟩, rfl⟩
    | _ => cases hc
  · obtain ⟨c1, c2, c3, c4⟩ := He.exc_ok (fact (.exc x) (by
      unfold faOf
      simp only [List.mem_append, List.mem_map]
      exact .inr (.inr (.inr (.inr (.inr (.inl ⟨x, hx, rfl⟩)))))))
    refine ⟨He.ga K x, _, _, _, _, F.excBase_ValueError, c1, glo x ?_, c2, c3, c4⟩
    unfold faOf
    simp only [List.mem_append, List.mem_map]
    exact .inr (.inr (.inr (.inr (.inl ⟨x, hx, rfl⟩))))
  · refine ⟨_, glo x ?_, fun e he cls hcl => ?_⟩
    · unfold faOf
      simp only [List.mem_append, List.mem_map]
      exact .inr (.inr (.inr (.inr (.inr (.inr (.inl ⟨x, hx, rfl⟩))))))
    · have e1 := glo e (by
        unfold faOf
        simp only [List.mem_append, List.mem_map]
        exact .inr (.inr (.inr (.inr (.inr (.inr (.inr (.inl ⟨e, he, rfl⟩))))))))
      rw [e1] at hcl
      cases hcl
      exact He.exm_ok (fact (.exm e x (p.isub e x)) (by
        unfold faOf
        simp only [List.mem_append, List.mem_map, List.mem_flatMap]
        exact .inr (.inr (.inr (.inr (.inr (.inr (.inr (.inr (.inr ⟨e, he, x, hx, rfl⟩))))))))))
  · have ee := exs e he
    simp only [Bool.and_eq_true, decide_eq_true_eq, List.all_eq_true] at ee
    obtain ⟨⟨⟨⟨⟨⟨⟨⟨h1, h2⟩, h3⟩, h4⟩, h5⟩, h6⟩, h7⟩, h8⟩, h9⟩ := ee
    refine ⟨_, glo e ?_, ⟨h1, h2, h3, h4, h5, h6, h7, h8⟩, fun q hq c hc => ⟨_, glo c ?_, h9 q hq c hc⟩⟩
    · unfold faOf
      simp only [List.mem_append, List.mem_map]
      exact .inr (.inr (.inr (.inr (.inr (.inr (.inr (.inl ⟨e, he, rfl⟩)))))))
    · unfold faOf
      simp only [List.mem_append, List.mem_map, List.mem_flatMap]
      exact .inr (.inr (.inr (.inr (.inr (.inr (.inr (.inr (.inl ⟨q, hq, c, hc, rfl⟩))))))))
  · obtain ⟨df, R, fd, F⟩ := flgs q hq
    have e1 : He.DefD.dvs K df = [] := by unfold He.DefD.dvs; rw [R.d0]; rfl
    have e2 : He.DefD.kws K df = [] := by unfold He.DefD.kws; rw [R.k0]; rfl
    rw [R.nm, R.qn, e1, e2, R.at_] at F
    have g2 := List.all_eq_true.mp R.g2
    have g3 := R.g3
    simp only [Bool.and_eq_true, decide_eq_true_eq, Bool.not_eq_true'] at g3
    refine ⟨_, fd, _, _, _, F, glo q.1 ?_, R.sc, F.bindsN R.bi, R.fl, R.g1, fun c hc => ?_, ⟨g3.1.1.1, g3.1.1.2, g3.1.2⟩, ?_, ?_⟩
    · unfold faOf
      simp only [List.mem_append, List.mem_map]
      exact .inr (.inl ⟨q, hq, rfl⟩)
    · have := g2 c hc
      simp only [Bool.and_eq_true, decide_eq_true_eq, Bool.not_eq_true'] at this
      exact this
    · rcases isi with h | h
      · rw [h] at hq
        cases hq
      · exact fre _ (mem_of h)
    · have := g3.2
      rw [sizeLine_eq]
      omega
end Cr
/-! One row for each word of the core language. -/
namespace Cr
open PySem
theorem evE_var (G : Cfg) (i : Nat) (pk : Bool) (env : Env) (dr : List Int) : evE G (.var i) pk env dr = (ofO (if pk then varP (get env i) else varS (get env i)) dr) := Eq.trans rfl rfl
theorem evE_non (G : Cfg) (pk0 : Bool) (env0 : Env) (dr : List Int) : evE G .non pk0 env0 dr = (.ok .non dr) := Eq.trans rfl rfl
theorem evE_bl (G : Cfg) (b : Bool) (pk0 : Bool) (env0 : Env) (dr : List Int) : evE G (.bl b) pk0 env0 dr = (.ok (.bl b) dr) := Eq.trans rfl rfl
theorem evE_int (G : Cfg) (i : Int) (pk0 : Bool) (env0 : Env) (dr : List Int) : evE G (.int i) pk0 env0 dr = (.ok (.int i) dr) := Eq.trans rfl rfl
theorem evE_str (G : Cfg) (s : Str) (pk0 : Bool) (env0 : Env) (dr : List Int) : evE G (.str s) pk0 env0 dr = (.ok (.str s) dr) := Eq.trans rfl rfl
theorem evE_glo (G : Cfg) (x : Str) (pk0 : Bool) (env0 : Env) (dr : List Int) : evE G (.glo x) pk0 env0 dr = (ofO (G.cons x) dr) := Eq.trans rfl rfl
theorem evE_fnv (G : Cfg) (x : Str) (pk0 : Bool) (env0 : Env) (dr : List Int) : evE G (.fnv x) pk0 env0 dr = (.ok (.fn x) dr) := Eq.trans rfl rfl
theorem evE_bin (G : Cfg) (op : BOp) (a : CE) (b : CE) (pk0 : Bool) (env : Env) (dr : List Int) : evE G (.bin op a b) pk0 env dr = ((evE G a true env dr).bind fun x dr => (evE G b true env dr).bind fun y dr => ofO (binD op x y) dr) := Eq.trans rfl rfl
theorem evE_neg (G : Cfg) (a : CE) (pk0 : Bool) (env : Env) (dr : List Int) : evE G (.neg a) pk0 env dr = ((evE G a true env dr).bind fun x dr => ofO (match x with
    | .int i => some (.int (-i))
    | _ => none) dr) := Eq.trans rfl rfl
theorem evE_cmp (G : Cfg) (op : COp) (a : CE) (b : CE) (pk0 : Bool) (env : Env) (dr : List Int) : evE G (.cmp op a b) pk0 env dr = ((evE G a true env dr).bind fun x dr => (evE G b true env dr).bind fun y dr => ofO ((cmpD op x y).map .bl) dr) := Eq.trans rfl rfl
theorem evE_cmp2 (G : Cfg) (o1 : COp) (o2 : COp) (a : CE) (b : CE) (c : CE) (pk0 : Bool) (env : Env) (dr : List Int) : evE G (.cmp2 o1 o2 a b c) pk0 env dr = ((evE G a true env dr).bind fun x dr => (evE G b true env dr).bind fun y dr => (ofO (cmpD o1 x y) dr).bind fun k dr =>
    match k with
    | true => (evE G c true env dr).bind fun z dr => ofO ((cmpD o2 y z).map .bl) dr
    | false => .ok (.bl false) dr) := Eq.trans rfl rfl
theorem evE_isN (G : Cfg) (a : CE) (pk0 : Bool) (env : Env) (dr : List Int) : evE G (.isN a) pk0 env dr = ((evE G a true env dr).bind fun x dr => .ok (.bl (isNone x)) dr) := Eq.trans rfl rfl
theorem evE_notN (G : Cfg) (a : CE) (pk0 : Bool) (env : Env) (dr : List Int) : evE G (.notN a) pk0 env dr = ((evE G a true env dr).bind fun x dr => .ok (.bl (!isNone x)) dr) := Eq.trans rfl rfl
theorem evE_and (G : Cfg) (es : CE) (pk0 : Bool) (env : Env) (dr : List Int) : evE G (.and es) pk0 env dr = (evAnd G es env dr) := Eq.trans rfl rfl
theorem evE_or (G : Cfg) (es : CE) (pk0 : Bool) (env : Env) (dr : List Int) : evE G (.or es) pk0 env dr = (evOr G es env dr) := Eq.trans rfl rfl
theorem evE_not (G : Cfg) (a : CE) (pk0 : Bool) (env : Env) (dr : List Int) : evE G (.not a) pk0 env dr = ((evE G a true env dr).bind fun x dr => ofO (match x with
    | .bl b => some (.bl (!b))
    | _ => none) dr) := Eq.trans rfl rfl
theorem evE_ife (G : Cfg) (c : CE) (a : CE) (b : CE) (pk0 : Bool) (env : Env) (dr : List Int) : evE G (.ife c a b) pk0 env dr = ((evT G c env dr).bind fun t dr => match t with
    | true => evE G a false env dr
    | false => evE G b false env dr) := Eq.trans rfl rfl
theorem evE_tup (G : Cfg) (es : CE) (pk0 : Bool) (env : Env) (dr : List Int) : evE G (.tup es) pk0 env dr = ((evL G es env dr).bind fun ds dr => ofO (grd (szOk ds.length) (.tup ds)) dr) := Eq.trans rfl rfl
theorem evE_lst (G : Cfg) (es : CE) (pk0 : Bool) (env : Env) (dr : List Int) : evE G (.lst es) pk0 env dr = ((evL G es env dr).bind fun ds dr => ofO (grd (szOk ds.length) (.lst ds)) dr) := Eq.trans rfl rfl
theorem evE_dicE (G : Cfg) (t : Bool) (pk0 : Bool) (env0 : Env) (dr : List Int) : evE G (.dicE t) pk0 env0 dr = (.ok (if t then .dicT [] [] else .dicK [] []) dr) := Eq.trans rfl rfl
theorem evE_call (G : Cfg) (f : Str) (es : CE) (pk0 : Bool) (env : Env) (dr : List Int) : evE G (.call f es) pk0 env dr = ((evL G es env dr).bind fun ds dr => match G.fns f with
    | some g => g ds dr
    | none => .bad) := Eq.trans rfl rfl
theorem evE_callv (G : Cfg) (f : CE) (es : CE) (pk0 : Bool) (env : Env) (dr : List Int) : evE G (.callv f es) pk0 env dr = ((evE G f true env dr).bind fun x dr => (evL G es env dr).bind fun ds dr => match x with
    | .fn f => (match G.fns f with
      | some g => g ds dr
      | none => .bad)
    | _ => .bad) := Eq.trans rfl rfl
theorem evE_blt (G : Cfg) (f : BI) (es : CE) (pk0 : Bool) (env : Env) (dr : List Int) : evE G (.blt f es) pk0 env dr = ((evLp G es env dr).bind fun ds dr => ofO (bltD f ds) dr) := Eq.trans rfl rfl
theorem evE_isi (G : Cfg) (a : CE) (t : Ty) (pk0 : Bool) (env : Env) (dr : List Int) : evE G (.isi a t) pk0 env dr = ((evE G a true env dr).bind fun x dr => ofO ((isiD t x).map .bl) dr) := Eq.trans rfl rfl
theorem evE_meth (G : Cfg) (m : MI) (o : CE) (es : CE) (pk0 : Bool) (env : Env) (dr : List Int) : evE G (.meth m o es) pk0 env dr = ((evE G o true env dr).bind fun x dr => (ofO (rcv m x) dr).bind fun x dr => (evL G es env dr).bind fun ds dr => ofO (methD m x ds) dr) := Eq.trans rfl rfl
theorem evE_ix (G : Cfg) (a : CE) (i : CE) (pk0 : Bool) (env : Env) (dr : List Int) : evE G (.ix a i) pk0 env dr = ((evE G a true env dr).bind fun x dr => (evE G i true env dr).bind fun y dr => ofO (ixD x y) dr) := Eq.trans rfl rfl
theorem evE_sl (G : Cfg) (a : CE) (lo : CE) (hi : CE) (pk0 : Bool) (env : Env) (dr : List Int) : evE G (.sl a lo hi) pk0 env dr = ((evE G a true env dr).bind fun x dr => (evO G lo env dr).bind fun l dr => (evO G hi env dr).bind fun h dr => ofO (slD x l h) dr) := Eq.trans rfl rfl
theorem evE_rev (G : Cfg) (a : CE) (pk0 : Bool) (env : Env) (dr : List Int) : evE G (.rev a) pk0 env dr = ((evE G a true env dr).bind fun x dr => ofO (revD x) dr) := Eq.trans rfl rfl
theorem evE_lc (G : Cfg) (p : Pat) (it : CE) (t : CE) (e : CE) (pk0 : Bool) (env : Env) (dr : List Int) : evE G (.lc p it t e) pk0 env dr = ((evI G it true env dr).bind fun xs dr => noX ((lcL (fun d dr => (ofO (asgP p d (wipeE env (slots p))) dr).bind fun env dr =>
      (evTs G t env dr).bind fun k dr => match k with
      | true => (evE G e false env dr).bind fun y dr => .ok (some y) dr
      | false => .ok none dr) xs dr).bind fun ys dr => .ok (.lst ys) dr)) := Eq.trans rfl rfl
theorem evE_lc2 (G : Cfg) (p : Pat) (it : CE) (t : CE) (p2 : Pat) (it2 : CE) (t2 : CE) (e : CE) (pk0 : Bool) (env : Env) (dr : List Int) : evE G (.lc2 p it t p2 it2 t2 e) pk0 env dr = ((evI G it true env dr).bind fun xs dr => noX ((lcL2 (fun d dr => (ofO (asgP p d (wipeE env (slots p ++ slots p2))) dr).bind fun env dr =>
      (evTs G t env dr).bind fun k dr => match k with
      | true => (evI G it2 true env dr).bind fun ys dr => lcL (fun d dr => (ofO (asgP p2 d (wipeE env (slots p2))) dr).bind fun env dr =>
        (evTs G t2 env dr).bind fun k dr => match k with
        | true => (evE G e false env dr).bind fun y dr => .ok (some y) dr
        | false => .ok none dr) ys dr
      | false => .ok [] dr) xs dr).bind fun ys dr => ofO (grd (szOk ys.length) (.lst ys)) dr)) := Eq.trans rfl rfl
theorem evE_dc (G : Cfg) (k : Bool) (p : Pat) (it : CE) (t : CE) (key : CE) (e : CE) (pk0 : Bool) (env : Env) (dr : List Int) : evE G (.dc k p it t key e) pk0 env dr = (.bad) := Eq.trans rfl rfl
theorem evE_dpop (G : Cfg) (i : Nat) (pk0 : Bool) (env : Env) (dr : List Int) : evE G (.dpop i) pk0 env dr = (match get env i, dr with
    | .val .drw, x :: r => .ok (.int x) r
    | _, _ => .bad) := Eq.trans rfl rfl
theorem evE_dlen (G : Cfg) (i : Nat) (pk0 : Bool) (env : Env) (dr : List Int) : evE G (.dlen i) pk0 env dr = (match get env i with
    | .val .drw => .ok (.int dr.length) dr
    | _ => .bad) := Eq.trans rfl rfl
theorem evE_lrev (G : Cfg) (a : CE) (pk0 : Bool) (env : Env) (dr : List Int) : evE G (.lrev a) pk0 env dr = ((evE G a true env dr).bind fun x dr => ofO (match x with
    | .lst ds => some (.lst ds.reverse)
    | _ => none) dr) := Eq.trans rfl rfl
theorem evE_fstr (G : Cfg) (es : CE) (pk0 : Bool) (env : Env) (dr : List Int) : evE G (.fstr es) pk0 env dr = ((evL G es env dr).bind fun ds dr => .bad) := Eq.trans rfl rfl
theorem evT_not (G : Cfg) (a : CE) (env : Env) (dr : List Int) : evT G (.not a) env dr = ((evT G a env dr).bind fun b dr => .ok (!b) dr) := Eq.trans rfl rfl
theorem evT_and (G : Cfg) (es : CE) (env : Env) (dr : List Int) : evT G (.and es) env dr = (evTand G es env dr) := Eq.trans rfl rfl
theorem evT_or (G : Cfg) (es : CE) (env : Env) (dr : List Int) : evT G (.or es) env dr = (evTor G es env dr) := Eq.trans rfl rfl
theorem evT_cmp (G : Cfg) (op : COp) (a : CE) (b : CE) (env : Env) (dr : List Int) : evT G (.cmp op a b) env dr = ((evE G a true env dr).bind fun x dr => (evE G b true env dr).bind fun y dr => ofO (cmpD op x y) dr) := Eq.trans rfl rfl
theorem evT_cmp2 (G : Cfg) (o1 : COp) (o2 : COp) (a : CE) (b : CE) (c : CE) (env : Env) (dr : List Int) : evT G (.cmp2 o1 o2 a b c) env dr = ((evE G a true env dr).bind fun x dr => (evE G b true env dr).bind fun y dr => (ofO (cmpD o1 x y) dr).bind fun k dr =>
    match k with
    | true => (evE G c true env dr).bind fun z dr => ofO (cmpD o2 y z) dr
    | false => .ok false dr) := Eq.trans rfl rfl
theorem evT_isN (G : Cfg) (a : CE) (env : Env) (dr : List Int) : evT G (.isN a) env dr = ((evE G a true env dr).bind fun x dr => .ok (isNone x) dr) := Eq.trans rfl rfl
theorem evT_notN (G : Cfg) (a : CE) (env : Env) (dr : List Int) : evT G (.notN a) env dr = ((evE G a true env dr).bind fun x dr => .ok (!isNone x) dr) := Eq.trans rfl rfl
theorem evT_call (G : Cfg) (f : Str) (es : CE) (env : Env) (dr : List Int) : evT G (.call f es) env dr = ((evL G es env dr).bind fun ds dr => match G.fns f with
    | some g => (g ds dr).bind fun x dr => ofO x.tru dr
    | none => .bad) := Eq.trans rfl rfl
theorem evT_blt (G : Cfg) (f : BI) (es : CE) (env : Env) (dr : List Int) : evT G (.blt f es) env dr = ((evLp G es env dr).bind fun ds dr => (ofO (bltD f ds) dr).bind fun x dr => ofO x.tru dr) := Eq.trans rfl rfl
theorem evT_isi (G : Cfg) (a : CE) (t : Ty) (env : Env) (dr : List Int) : evT G (.isi a t) env dr = ((evE G a true env dr).bind fun x dr => ofO (isiD t x) dr) := Eq.trans rfl rfl
theorem evT_var (G : Cfg) (i : Nat) (env : Env) (dr : List Int) : evT G (.var i) env dr = ((ofO (varP (get env i)) dr).bind fun x dr => ofO x.tru dr) := Eq.trans rfl rfl
theorem evT_ix (G : Cfg) (a : CE) (i : CE) (env : Env) (dr : List Int) : evT G (.ix a i) env dr = ((evE G a true env dr).bind fun x dr => (evE G i true env dr).bind fun y dr => (ofO (ixD x y) dr).bind fun x dr => ofO x.tru dr) := Eq.trans rfl rfl
theorem evL_nil (G : Cfg) (env0 : Env) (dr : List Int) : evL G .nil env0 dr = (.ok [] dr) := Eq.trans rfl rfl
theorem evL_cons (G : Cfg) (e : CE) (es : CE) (env : Env) (dr : List Int) : evL G (.cons e es) env dr = ((evE G e false env dr).bind fun d dr => (evL G es env dr).bind fun ds dr => .ok (d :: ds) dr) := Eq.trans rfl rfl
theorem evL_scons (G : Cfg) (e : CE) (es : CE) (env : Env) (dr : List Int) : evL G (.scons e es) env dr = ((evE G e true env dr).bind fun d dr => (ofO (iterD d) dr).bind fun xs dr => (evL G es env dr).bind fun ds dr => .ok (xs ++ ds) dr) := Eq.trans rfl rfl
theorem evLp_nil (G : Cfg) (env0 : Env) (dr : List Int) : evLp G .nil env0 dr = (.ok [] dr) := Eq.trans rfl rfl
theorem evLp_cons (G : Cfg) (e : CE) (es : CE) (env : Env) (dr : List Int) : evLp G (.cons e es) env dr = ((evE G e true env dr).bind fun d dr => (evLp G es env dr).bind fun ds dr => .ok (d :: ds) dr) := Eq.trans rfl rfl
theorem evO_nil (G : Cfg) (env0 : Env) (dr : List Int) : evO G .nil env0 dr = (.ok none dr) := Eq.trans rfl rfl
theorem evI_rng (G : Cfg) (es : CE) (pk0 : Bool) (env : Env) (dr : List Int) : evI G (.rng es) pk0 env dr = ((evLp G es env dr).bind fun ds dr => ofO (rngD ds) dr) := Eq.trans rfl rfl
theorem evI_enum (G : Cfg) (a : CE) (pk : Bool) (env : Env) (dr : List Int) : evI G (.enum a) pk env dr = ((evE G a pk env dr).bind fun d dr => ofO ((iterD d).map (enumL 0)) dr) := Eq.trans rfl rfl
theorem evI_zip (G : Cfg) (a : CE) (b : CE) (pk : Bool) (env : Env) (dr : List Int) : evI G (.zip a b) pk env dr = ((evE G a pk env dr).bind fun d dr => (evE G b pk env dr).bind fun e dr => ofO (match iterD d, iterD e with
    | some xs, some ys => some (zipL xs ys)
    | _, _ => none) dr) := Eq.trans rfl rfl
theorem evI_items (G : Cfg) (a : CE) (pk : Bool) (env : Env) (dr : List Int) : evI G (.items a) pk env dr = ((evE G a pk env dr).bind fun d dr => ofO (itemsD d) dr) := Eq.trans rfl rfl
theorem evI_vals (G : Cfg) (a : CE) (pk : Bool) (env : Env) (dr : List Int) : evI G (.vals a) pk env dr = ((evE G a pk env dr).bind fun d dr => ofO (valsD d) dr) := Eq.trans rfl rfl
theorem evB_done (G : Cfg) (env : Env) (dr : List Int) : evB G .done env dr = (.ok (.nx env) dr) := Eq.trans rfl rfl
theorem evB_ex (G : Cfg) (e : CE) (k : CS) (env : Env) (dr : List Int) : evB G (.ex e k) env dr = ((evE G e false env dr).bind fun _ dr => evB G k env dr) := Eq.trans rfl rfl
theorem evB_asg (G : Cfg) (p : Pat) (e : CE) (k : CS) (env : Env) (dr : List Int) : evB G (.asg p e k) env dr = ((evE G e false env dr).bind fun d dr => (ofO (asgP p d env) dr).bind fun env dr => evB G k env dr) := Eq.trans rfl rfl
theorem evB_own (G : Cfg) (i : Nat) (e : CE) (k : CS) (env : Env) (dr : List Int) : evB G (.own i e k) env dr = ((evE G e false env dr).bind fun d dr => (ofO ((freshD d).bind fun d => setSl env i (.own d)) dr).bind fun env dr => evB G k env dr) := Eq.trans rfl rfl
theorem evB_par (G : Cfg) (i : Nat) (j : Nat) (a : CE) (b : CE) (k : CS) (env : Env) (dr : List Int) : evB G (.par i j a b k) env dr = ((evE G a false env dr).bind fun x dr => (evE G b false env dr).bind fun y dr => (ofO ((setSl env i (.val x)).bind fun env => setSl env j (.val y)) dr).bind fun env dr => evB G k env dr) := Eq.trans rfl rfl
theorem evB_par3 (G : Cfg) (i : Nat) (j : Nat) (l : Nat) (a : CE) (b : CE) (c : CE) (k : CS) (env : Env) (dr : List Int) : evB G (.par3 i j l a b c k) env dr = ((evE G a false env dr).bind fun x dr => (evE G b false env dr).bind fun y dr => (evE G c false env dr).bind fun z dr =>
    (ofO ((setSl env i (.val x)).bind fun env => (setSl env j (.val y)).bind fun env => setSl env l (.val z)) dr).bind fun env dr => evB G k env dr) := Eq.trans rfl rfl
theorem evB_aug (G : Cfg) (i : Nat) (op : BOp) (e : CE) (k : CS) (env : Env) (dr : List Int) : evB G (.aug i op e k) env dr = ((ofO (varS (get env i)) dr).bind fun x dr => (evE G e false env dr).bind fun y dr => (ofO ((binD op x y).bind fun z => setSl env i (.val z)) dr).bind fun env dr => evB G k env dr) := Eq.trans rfl rfl
theorem evB_app (G : Cfg) (i : Nat) (e : CE) (k : CS) (env : Env) (dr : List Int) : evB G (.app i e k) env dr = (match get env i with
    | .own (.lst ds) => (evE G e false env dr).bind fun d dr => (ofO (grd (decide (ds.length < sizeLine)) (env.set i (.own (.lst (ds ++ [d]))))) dr).bind fun env dr => evB G k env dr
    | _ => .bad) := Eq.trans rfl rfl
theorem evB_ext (G : Cfg) (i : Nat) (e : CE) (k : CS) (env : Env) (dr : List Int) : evB G (.ext i e k) env dr = ((evE G e false env dr).bind fun d dr => (ofO ((extS (get env i) d).bind (setSl env i)) dr).bind fun env dr => evB G k env dr) := Eq.trans rfl rfl
theorem evB_setI (G : Cfg) (i : Nat) (x : CE) (e : CE) (k : CS) (env : Env) (dr : List Int) : evB G (.setI i x e k) env dr = ((evE G e false env dr).bind fun d dr => (evE G x true env dr).bind fun y dr => (ofO ((setS (get env i) y d).bind (setSl env i)) dr).bind fun env dr => evB G k env dr) := Eq.trans rfl rfl
theorem evB_augI (G : Cfg) (i : Nat) (op : BOp) (x : CE) (e : CE) (k : CS) (env : Env) (dr : List Int) : evB G (.augI i op x e k) env dr = ((evE G x true env dr).bind fun y dr => (ofO ((slD? (get env i)).bind fun o => ixD o y) dr).bind fun u dr => (evE G e false env dr).bind fun w dr =>
    (ofO ((binD op u w).bind fun d => (setS (get env i) y d).bind (setSl env i)) dr).bind fun env dr => evB G k env dr) := Eq.trans rfl rfl
theorem evB_popS (G : Cfg) (p : Pat) (i : Nat) (k : CS) (env : Env) (dr : List Int) : evB G (.popS p i k) env dr = ((ofO (popS (get env i)) dr).bind fun q dr => (ofO ((setSl env i q.2).bind fun env => asgP p q.1 env) dr).bind fun env dr => evB G k env dr) := Eq.trans rfl rfl
theorem evB_popD (G : Cfg) (p : Pat) (i : Nat) (x : CE) (k : CS) (env : Env) (dr : List Int) : evB G (.popD p i x k) env dr = ((evE G x true env dr).bind fun y dr => (ofO (popDS (get env i) y) dr).bind fun q dr => (ofO ((setSl env i q.2).bind fun env => asgP p q.1 env) dr).bind fun env dr => evB G k env dr) := Eq.trans rfl rfl
theorem evB_frz (G : Cfg) (i : Nat) (k : CS) (env : Env) (dr : List Int) : evB G (.frz i k) env dr = ((ofO ((frzS (get env i)).bind (setSl env i)) dr).bind fun env dr => evB G k env dr) := Eq.trans rfl rfl
theorem evB_ifs (G : Cfg) (c : CE) (a : CS) (b : CS) (k : CS) (env : Env) (dr : List Int) : evB G (.ifs c a b k) env dr = ((evT G c env dr).bind fun t dr => (match t with
    | true => evB G a env dr
    | false => evB G b env dr).bind fun f dr => match f with
      | .nx env => evB G k env dr
      | f => .ok f dr) := Eq.trans rfl rfl
theorem evB_for_ (G : Cfg) (p : Pat) (it : CE) (body : CS) (k : CS) (env : Env) (dr : List Int) : evB G (.for_ p it body k) env dr = ((evI G it false env dr).bind fun xs dr => (forL (fun d env dr => (ofO (asgP p d env) dr).bind fun env dr => evB G body env dr) xs env dr).bind fun f dr => match f with
      | .nx env => evB G k env dr
      | f => .ok f dr) := Eq.trans rfl rfl
theorem evB_whl (G : Cfg) (c : CE) (body : CS) (k : CS) (env : Env) (dr : List Int) : evB G (.whl c body k) env dr = ((whlL (evT G c) (evB G body) G.fuel env dr).bind fun f dr => match f with
      | .nx env => evB G k env dr
      | f => .ok f dr) := Eq.trans rfl rfl
theorem evB_brk (G : Cfg) (env : Env) (dr : List Int) : evB G .brk env dr = (.ok (.bk env) dr) := Eq.trans rfl rfl
theorem evB_cnt (G : Cfg) (env : Env) (dr : List Int) : evB G .cnt env dr = (.ok (.ct env) dr) := Eq.trans rfl rfl
theorem evB_ret (G : Cfg) (e : CE) (env : Env) (dr : List Int) : evB G (.ret e) env dr = ((evE G e false env dr).bind fun d dr => .ok (.rt d) dr) := Eq.trans rfl rfl
theorem evB_ret0 (G : Cfg) (env0 : Env) (dr : List Int) : evB G .ret0 env0 dr = (.ok (.rt .non) dr) := Eq.trans rfl rfl
theorem evB_tryF (G : Cfg) (x : Str) (f : Str) (u0 : Nat) (body : CS) (k : CS) (env : Env) (dr : List Int) : evB G (.tryF x f u0 body k) env dr = (match evB G body env dr with
    | .bad => .bad
    | .exc e dr => match G.sub e.cls x with
      | some true => if e.at_.isNone then (ofO (G.flg f e.cls) dr).bind fun d dr => .ok (.rt d) dr else .bad
      | some false => .exc e dr
      | none => .bad
    | .ok f dr => match f with
      | .nx env => evB G k env dr
      | f => .ok f dr) := Eq.trans rfl rfl
theorem evB_forD (G : Cfg) (p : Pat) (i : Nat) (body : CS) (k : CS) (env : Env) (dr : List Int) : evB G (.forD p i body k) env dr = (match get env i with
    | .val .drw => (forL (fun d env dr => ((ofO (asgP p d env) dr).bind fun env dr => evB G body env dr).bind fun f dr2 => if dr2 = dr then .ok f dr2 else .bad) (dr.reverse.map .int) env dr).bind fun f dr => match f with
      | .nx env => evB G k env dr
      | f => .ok f dr
    | _ => .bad) := Eq.trans rfl rfl
theorem evB_dead (G : Cfg) (env0 : Env) (dr0 : List Int) : evB G .dead env0 dr0 = (.bad) := Eq.trans rfl rfl
theorem evO_one (G : Cfg) (e : CE) (env : Env) (dr : List Int) : evO G (.cons e .nil) env dr = (evE G e true env dr).bind fun d dr => ofO (match d with
    | .int i => some (some i)
    | _ => none) dr := Eq.trans rfl rfl
theorem evI_one (G : Cfg) (e : CE) (pk : Bool) (env : Env) (dr : List Int) : evI G (.cons e .nil) pk env dr = (evE G e pk env dr).bind fun d dr => ofO (iterD d) dr := Eq.trans rfl rfl
theorem evTs_nil (G : Cfg) (env : Env) (dr : List Int) : evTs G .nil env dr = .ok true dr := Eq.trans rfl rfl
theorem evTs_one (G : Cfg) (c : CE) (env : Env) (dr : List Int) : evTs G (.cons c .nil) env dr = evT G c env dr := Eq.trans rfl rfl
theorem evB_rse0 (G : Cfg) (x : Str) (env : Env) (dr : List Int) : evB G (.rse x .nil) env dr = .exc ⟨x, none⟩ dr := Eq.trans rfl rfl
theorem evAnd_1 (G : Cfg) (c : CE) (env : Env) (dr : List Int) : evAnd G (.cons c .nil) env dr = evE G c false env dr := Eq.trans rfl rfl
theorem evOr_1 (G : Cfg) (c : CE) (env : Env) (dr : List Int) : evOr G (.cons c .nil) env dr = evE G c false env dr := Eq.trans rfl rfl
theorem evTand_1 (G : Cfg) (c : CE) (env : Env) (dr : List Int) : evTand G (.cons c .nil) env dr = evT G c env dr := Eq.trans rfl rfl
theorem evTor_1 (G : Cfg) (c : CE) (env : Env) (dr : List Int) : evTor G (.cons c .nil) env dr = evT G c env dr := Eq.trans rfl rfl
theorem evAnd_2 (G : Cfg) (c a b : CE) (env : Env) (dr : List Int) : evAnd G (.cons c (.cons a b)) env dr = (evE G c true env dr).bind fun x dr => match x with
    | .bl true => evAnd G (.cons a b) env dr
    | .bl false => .ok (.bl false) dr
    | _ => .bad := Eq.trans rfl rfl
theorem evOr_2 (G : Cfg) (c a b : CE) (env : Env) (dr : List Int) : evOr G (.cons c (.cons a b)) env dr = (evE G c true env dr).bind fun x dr => match x with
    | .bl true => .ok (.bl true) dr
    | .bl false => evOr G (.cons a b) env dr
    | _ => .bad := Eq.trans rfl rfl
theorem evTand_2 (G : Cfg) (c a b : CE) (env : Env) (dr : List Int) : evTand G (.cons c (.cons a b)) env dr = (evT G c env dr).bind fun t dr => match t with
    | true => evTand G (.cons a b) env dr
    | false => .ok false dr := Eq.trans rfl rfl
theorem evTor_2 (G : Cfg) (c a b : CE) (env : Env) (dr : List Int) : evTor G (.cons c (.cons a b)) env dr = (evT G c env dr).bind fun t dr => match t with
    | true => .ok true dr
    | false => evTor G (.cons a b) env dr := Eq.trans rfl rfl
theorem rb_ok {α β : Type} (a : α) (dr : List Int) (f : α → List Int → Res β) : (Res.ok a dr).bind f = f a dr := Eq.trans rfl rfl
theorem rb_exc {α β : Type} (e : Ex) (dr : List Int) (f : α → List Int → Res β) : (Res.exc e dr : Res α).bind f = .exc e dr := Eq.trans rfl rfl
theorem rb_bad {α β : Type} (f : α → List Int → Res β) : (Res.bad : Res α).bind f = .bad := Eq.trans rfl rfl
theorem oo_some {α : Type} (a : α) (dr : List Int) : ofO (some a) dr = .ok a dr := Eq.trans rfl rfl
end Cr
/-! Plain lemmas of the evaluator. -/
namespace Cr
open PySem
theorem bind_ok' {α β : Type} (a : α) (dr : List Int) (f : α → List Int → Res β) : (Res.ok a dr).bind f = f a dr := rfl
/-- a loop that goes through: I by the turn, the slots, the draws -/
theorem forL_nx {b : D → Env → List Int → Res Fl} (I : Nat → Env → List Int → Prop) : ∀ (ds : List D) (i : Nat) (env : Env) (dr : List Int), I i env dr →
    (∀ k d env dr, ds[k]? = some d → I (i + k) env dr → ∃ env' dr', (b d env dr = .ok (.nx env') dr' ∨ b d env dr = .ok (.ct env') dr') ∧ I (i + k + 1) env' dr') → ∃ env' dr', forL b ds env dr = .ok (.nx env') dr' ∧ I (i + ds.length) env' dr'
  | [], i, env, dr, h, _ => ⟨env, dr, rfl, h⟩
  | d :: ds, i, env, dr, h, hs => by
    obtain ⟨env1, dr1, h1, h2⟩ := hs 0 d env dr rfl h
    have ih := forL_nx I ds (i + 1) env1 dr1 h2 fun k d' e' r' hk hi => by
      have := hs (k + 1) d' e' r' (by simpa using hk) (by rw [show i + (k + 1) = i + 1 + k by omega]; exact hi)
      rw [show i + (k + 1) + 1 = i + 1 + k + 1 by omega] at this
      exact this
    obtain ⟨env2, dr2, h3, h4⟩ := ih
    refine ⟨env2, dr2, ?_, by rw [List.length_cons, show i + (ds.length + 1) = i + 1 + ds.length by omega]; exact h4⟩
    show (b d env dr).bind _ = _
    rcases h1 with h1 | h1 <;> (rw [h1]; exact h3)
/-- a comprehension, item by item -/
theorem lcL_map {b : D → List Int → Res (Option D)} {f : D → Option D} : ∀ (ds : List D) (dr : List Int), (∀ d ∈ ds, b d dr = .ok (f d) dr) → lcL b ds dr = .ok (ds.filterMap f) dr
  | [], dr, _ => rfl
  | d :: ds, dr, h => by
    have ih := lcL_map ds dr fun x hx => h x (List.mem_cons_of_mem _ hx)
    show (b d dr).bind _ = _
    rw [h d List.mem_cons_self]
    show ((lcL b ds dr).bind fun r dr => .ok (match f d with
      | some y => y :: r
      | none => r) dr) = _
    rw [ih]
    cases e : f d <;> simp [List.filterMap_cons, e, Res.bind]
/-- with draws: each item does something to them -/
theorem lcL_all {b : D → List Int → Res (Option D)} {P : D → Prop} : ∀ (ds : List D) (dr : List Int), (∀ d ∈ ds, ∀ dr, ∃ y dr', b d dr = .ok (some y) dr' ∧ P y) → ∃ ys dr', lcL b ds dr = .ok ys dr' ∧ ys.length = ds.length ∧ ∀ y ∈ ys, P y
  | [], dr, _ => ⟨[], dr, rfl, rfl, fun _ h => nomatch h⟩
  | d :: ds, dr, h => by
    obtain ⟨y, dr1, h1, hy⟩ := h d List.mem_cons_self dr
    obtain ⟨ys, dr2, h2, hl, hp⟩ := lcL_all ds dr1 fun x hx => h x (List.mem_cons_of_mem _ hx)
    refine ⟨y :: ys, dr2, ?_, by rw [List.length_cons, List.length_cons, hl], fun z hz => ?_⟩
    · show (b d dr).bind _ = _
      rw [h1]
      show ((lcL b ds dr1).bind _) = _
      rw [h2]
      rfl
    · rcases List.mem_cons.mp hz with rfl | hz
      · exact hy
      · exact hp z hz
theorem eqD_int (i j : Int) : eqD (.int i) (.int j) = some (i == j) := by
  show grd (SeqAt.shaped (.int i) && SeqAt.shaped (.int j)) (PyData.eqv (.int i) (.int j)) = _
  rfl
theorem sh_str (x : Str) (h : PyData.strOk x = true) : SeqAt.shaped (.str x) = true := by
  unfold SeqAt.shaped
  rw [PyData.canLay0, PyData.depth, h]
  rfl
theorem eqD_str (x y : Str) (h1 : PyData.strOk x = true) (h2 : PyData.strOk y = true) : eqD (.str x) (.str y) = some (x == y) := by
  show grd (SeqAt.shaped (.str x) && SeqAt.shaped (.str y)) (PyData.eqv (.str x) (.str y)) = _
  rw [sh_str x h1, sh_str y h2, PyData.eqv]
  rfl
theorem eqD_bl (x y : Bool) : eqD (.bl x) (.bl y) = some (x == y) := by
  show grd (SeqAt.shaped (.bool x) && SeqAt.shaped (.bool y)) (PyData.eqv (.bool x) (.bool y)) = _
  rfl
theorem pys_strs : ∀ A : List Str, D.pys (A.map .str) = some (A.map .str)
  | [] => rfl
  | a :: A => by
    show (match (D.str a).py, D.pys (A.map .str) with
      | some p, some ps => some (p :: ps)
      | _, _ => none) = _
    rw [pys_strs A]
    rfl
theorem eqvAll_strs : ∀ A B : List Str, PyData.eqvAll (A.map .str) (B.map .str) = decide (A = B)
  | [], [] => rfl
  | [], _ :: _ => rfl
  | _ :: _, [] => rfl
  | a :: A, b :: B => by
    rw [List.map_cons, List.map_cons, PyData.eqvAll, PyData.eqv, eqvAll_strs A B]
    by_cases h : a = b
    · subst h
      by_cases h2 : A = B
      · simp [h2]
      · simp [h2]
    · simp [h]
theorem canLay_strs : ∀ A : List Str, (∀ a ∈ A, PyData.strOk a = true) → PyData.canLayAll0 (A.map .str) = true
  | [], _ => by rw [List.map_nil, PyData.canLayAll0]
  | a :: A, h => by rw [List.map_cons, PyData.canLayAll0, PyData.canLay0, canLay_strs A fun x hx => h x (List.mem_cons_of_mem _ hx), h a List.mem_cons_self]; rfl
theorem depth_strs : ∀ A : List Str, PyData.depthAll (A.map .str) = 0
  | [] => by rw [List.map_nil, PyData.depthAll]
  | a :: A => by rw [List.map_cons, PyData.depthAll, PyData.depth, depth_strs A]; rfl
theorem sh_lst (A : List Str) (h : ∀ a ∈ A, PyData.strOk a = true) : SeqAt.shaped (.list (A.map .str)) = true := by
  unfold SeqAt.shaped
  rw [PyData.canLay0, PyData.depth, canLay_strs A h, depth_strs]
  rfl
theorem sh_tup (A : List Str) (h : ∀ a ∈ A, PyData.strOk a = true) : SeqAt.shaped (.tuple (A.map .str)) = true := by
  unfold SeqAt.shaped
  rw [PyData.canLay0, PyData.depth, canLay_strs A h, depth_strs]
  rfl
theorem eqD_lst (A B : List Str) (h1 : ∀ a ∈ A, PyData.strOk a = true) (h2 : ∀ a ∈ B, PyData.strOk a = true) : eqD (.lst (A.map .str)) (.lst (B.map .str)) = some (decide (A = B)) := by
  have e : ∀ A : List Str, (D.lst (A.map .str)).py = some (.list (A.map .str)) := fun A => by
    show (D.pys (A.map .str)).map PyData.list = _
    rw [pys_strs]
    rfl
  unfold eqD
  rw [e, e]
  dsimp only
  rw [sh_lst A h1, sh_lst B h2, PyData.eqv, eqvAll_strs]
  rfl
theorem eqD_tup (A B : List Str) (h1 : ∀ a ∈ A, PyData.strOk a = true) (h2 : ∀ a ∈ B, PyData.strOk a = true) : eqD (.tup (A.map .str)) (.tup (B.map .str)) = some (decide (A = B)) := by
  have e : ∀ A : List Str, (D.tup (A.map .str)).py = some (.tuple (A.map .str)) := fun A => by
    show (D.pys (A.map .str)).map PyData.tuple = _
    rw [pys_strs]
    rfl
  unfold eqD
  rw [e, e]
  dsimp only
  rw [sh_tup A h1, sh_tup B h2, PyData.eqv, eqvAll_strs]
  rfl
theorem atI_nat {α : Type} (l : List α) (i : Nat) (h : i < l.length) : L2.atI l (i : Nat) = some l[i] := by
  unfold L2.atI L2.ixN
  rw [if_pos (by omega), if_pos (by omega)]
  show l[(i : Int).toNat]? = _
  rw [Int.toNat_natCast, List.getElem?_eq_getElem h]
theorem cut_drop {α : Type} (l : List α) (i : Nat) : cut l (some (i : Int)) none = l.drop i := by
  unfold cut
  rw [HT.sIx_nat, HT.sIx_none, List.take_of_length_le (by rw [List.length_drop]; omega)]
  by_cases h : i ≤ l.length
  · rw [Nat.min_eq_left h]
  · rw [Nat.min_eq_right (by omega), List.drop_length, List.drop_of_length_le (by omega)]
theorem cut_take {α : Type} (l : List α) (i : Nat) : cut l none (some (i : Int)) = l.take i := by
  unfold cut
  rw [HT.sIx_nat, HT.sIx_none, List.drop_zero, Nat.sub_zero]
  by_cases h : i ≤ l.length
  · rw [Nat.min_eq_left h]
  · rw [Nat.min_eq_right (by omega), List.take_length, List.take_of_length_le (by omega)]
/-- a comprehension that leaves the draws alone -/
theorem ev_lc {G : Cfg} {p : Pat} {it t e : CE} {pk : Bool} {env : Env} {dr : List Int} {xs : List D} (f : D → Option D) (h : evI G it true env dr = .ok xs dr)
    (hb : ∀ d ∈ xs, lcB p (slots p) (evTs G t) (evE G e false) env d dr = .ok (f d) dr) : evE G (.lc p it t e) pk env dr = .ok (.lst (xs.filterMap f)) dr := by
  show ((evI G it true env dr).bind fun xs dr => noX ((lcL (lcB p (slots p) (evTs G t) (evE G e false) env) xs dr).bind fun ys dr => .ok (D.lst ys) dr)) = _
  rw [h]
  show noX ((lcL (lcB p (slots p) (evTs G t) (evE G e false) env) xs dr).bind fun ys dr => .ok (D.lst ys) dr) = _
  rw [lcL_map (f := f) xs dr hb]
  rfl
theorem ev_lcm {G : Cfg} {p : Pat} {it t e : CE} {pk : Bool} {env : Env} {dr : List Int} {xs : List D} (f : D → D) (h : evI G it true env dr = .ok xs dr)
    (hb : ∀ d ∈ xs, lcB p (slots p) (evTs G t) (evE G e false) env d dr = .ok (some (f d)) dr) : evE G (.lc p it t e) pk env dr = .ok (.lst (xs.map f)) dr := by
  rw [ev_lc (fun d => some (f d)) h hb]
  congr 2
  clear h hb
  induction xs with
  | nil => rfl
  | cons x xs ih => simp [ih]
theorem all_map_t {α : Type} (xs : List α) : ∀ d ∈ xs.map (fun _ => D.bl true), d = .bl true := fun d hd => by
  obtain ⟨_, _, rfl⟩ := List.mem_map.mp hd
  rfl
/-- one that takes draws -/
theorem ev_lcd {G : Cfg} {p : Pat} {it t e : CE} {pk : Bool} {env : Env} {dr dr1 : List Int} {xs : List D} {P : D → Prop} (h : evI G it true env dr = .ok xs dr1)
    (hb : ∀ d ∈ xs, ∀ dr, ∃ y dr', lcB p (slots p) (evTs G t) (evE G e false) env d dr = .ok (some y) dr' ∧ P y) : ∃ ys dr', evE G (.lc p it t e) pk env dr = .ok (.lst ys) dr' ∧ ys.length = xs.length ∧ ∀ y ∈ ys, P y := by
  obtain ⟨ys, dr2, h1, h2, h3⟩ := lcL_all (P := P) xs dr1 hb
  refine ⟨ys, dr2, ?_, h2, h3⟩
  show ((evI G it true env dr).bind fun xs dr => noX ((lcL (lcB p (slots p) (evTs G t) (evE G e false) env) xs dr).bind fun ys dr => .ok (D.lst ys) dr)) = _
  rw [h]
  show noX ((lcL (lcB p (slots p) (evTs G t) (evE G e false) env) xs dr1).bind fun ys dr => .ok (D.lst ys) dr) = _
  rw [h1]
  rfl
theorem call_ret {G : Cfg} {n : Nat} {b : CS} {ds : List D} {dr : List Int} {d : D} {dr' : List Int} (hl : ds.length ≤ n) (h : evB G b (ds.map .val ++ List.replicate (n - ds.length) .no) dr = .ok (.rt d) dr') : callD G n b ds dr = .ok d dr' := by
  unfold callD
  rw [if_pos hl, h]
  rfl
theorem call_exc {G : Cfg} {n : Nat} {b : CS} {ds : List D} {dr : List Int} {e : Ex} {dr' : List Int} (hl : ds.length ≤ n) (h : evB G b (ds.map .val ++ List.replicate (n - ds.length) .no) dr = .exc e dr') : callD G n b ds dr = .exc e dr' := by
  unfold callD
  rw [if_pos hl, h]
  rfl
theorem call_nx {G : Cfg} {n : Nat} {b : CS} {ds : List D} {dr : List Int} {env : Env} {dr' : List Int} (hl : ds.length ≤ n) (h : evB G b (ds.map .val ++ List.replicate (n - ds.length) .no) dr = .ok (.nx env) dr') : callD G n b ds dr = .ok .non dr' := by
  unfold callD
  rw [if_pos hl, h]
  rfl
end Cr
namespace Cr
open PySem
theorem sz_le {n m : Nat} (hm : m ≤ 16777216) (h : n ≤ m) : szOk n = true := by
  unfold szOk
  rw [sizeLine_eq]
  exact decide_eq_true (by omega)
theorem bl_len_str {s : Str} (h : szOk s.length = true) : bltD .len [.str s] = some (.int s.length) := by
  show grd _ _ = _
  rw [h]
  rfl
theorem bl_len_tup (ds : List D) : bltD .len [.tup ds] = some (.int ds.length) := Eq.trans rfl rfl
theorem bl_len_lst (ds : List D) : bltD .len [.lst ds] = some (.int ds.length) := Eq.trans rfl rfl
theorem bl_len_ilst (ds : List Int) : bltD .len [.ilst ds] = some (.int ds.length) := Eq.trans rfl rfl
theorem bl_int (i : Int) : bltD .int [.int i] = some (.int i) := Eq.trans rfl rfl
theorem bl_int_b (b : Bool) : bltD .int [.bl b] = some (.int (if b then 1 else 0)) := Eq.trans rfl rfl
theorem bl_abs (i : Int) : bltD .abs [.int i] = some (.int (if i < 0 then -i else i)) := Eq.trans rfl rfl
theorem bl_tup_lst (ds : List D) : bltD .tuple [.lst ds] = some (.tup ds) := Eq.trans rfl rfl
theorem bl_tup_tup (ds : List D) : bltD .tuple [.tup ds] = some (.tup ds) := Eq.trans rfl rfl
theorem bl_lst_tup (ds : List D) : bltD .list [.tup ds] = some (.lst ds) := Eq.trans rfl rfl
theorem bl_lst_lst (ds : List D) : bltD .list [.lst ds] = some (.lst ds) := Eq.trans rfl rfl
theorem bls_true : ∀ ds : List D, (∀ d ∈ ds, d = .bl true) → ∃ bs : List Bool, blsOf ds = some bs ∧ bs.all id = true
  | [], _ => ⟨[], rfl, rfl⟩
  | d :: ds, h => by
    obtain ⟨bs, e1, e2⟩ := bls_true ds fun x hx => h x (List.mem_cons_of_mem _ hx)
    refine ⟨true :: bs, ?_, by rw [List.all_cons, e2]; rfl⟩
    rw [h d List.mem_cons_self]
    show (blsOf ds).map (true :: ·) = _
    rw [e1]
    rfl
theorem bl_all_t {ds : List D} (h : ∀ d ∈ ds, d = .bl true) : bltD .all [.lst ds] = some (.bl true) := by
  obtain ⟨bs, e1, e2⟩ := bls_true ds h
  show (blsOf ds).map _ = _
  rw [e1]
  show some (D.bl (bs.all id)) = _
  rw [e2]
theorem it_tup (ds : List D) : iterD (.tup ds) = some ds := Eq.trans rfl rfl
theorem it_lst (ds : List D) : iterD (.lst ds) = some ds := Eq.trans rfl rfl
theorem it_str {s : Str} (h : szOk s.length = true) : iterD (.str s) = some (s.cps.toList.map fun c => .str ⟨#[c]⟩) := by
  show grd _ _ = _
  rw [h]
  rfl
theorem cm_eq (x y : D) : cmpD .eq x y = eqD x y := Eq.trans rfl rfl
theorem cm_ne (x y : D) : cmpD .ne x y = (eqD x y).map (!·) := Eq.trans rfl rfl
theorem cm_lt (i j : Int) : cmpD .lt (.int i) (.int j) = some (decide (i < j)) := Eq.trans rfl rfl
theorem cm_le (i j : Int) : cmpD .le (.int i) (.int j) = some (decide (i ≤ j)) := Eq.trans rfl rfl
theorem cm_gt (i j : Int) : cmpD .gt (.int i) (.int j) = some (decide (j < i)) := Eq.trans rfl rfl
theorem cm_ge (i j : Int) : cmpD .ge (.int i) (.int j) = some (decide (j ≤ i)) := Eq.trans rfl rfl
theorem isi_tup (t : Ty) (ds : List D) : isiD t (.tup ds) = some (t == .tuple) := Eq.trans rfl rfl
theorem isi_lst (t : Ty) (ds : List D) : isiD t (.lst ds) = some (t == .list) := Eq.trans rfl rfl
theorem isi_str (t : Ty) (s : Str) : isiD t (.str s) = some (t == .str) := Eq.trans rfl rfl
theorem isi_int (t : Ty) (s : Int) : isiD t (.int s) = some (t == .int) := Eq.trans rfl rfl
theorem isi_bl (t : Ty) (s : Bool) : isiD t (.bl s) = some (t == .bool || t == .int) := Eq.trans rfl rfl
theorem isi_non (t : Ty) : isiD t .non = some false := Eq.trans rfl rfl
theorem ix_tup (ds : List D) (i : Int) : ixD (.tup ds) (.int i) = L2.atI ds i := Eq.trans rfl rfl
theorem ix_lst (ds : List D) (i : Int) : ixD (.lst ds) (.int i) = L2.atI ds i := Eq.trans rfl rfl
theorem atI_zero {α : Type} (x : α) (l : List α) : L2.atI (x :: l) 0 = some x := atI_nat (x :: l) 0 (by simp)
theorem bi_add (i j : Int) : binD .add (.int i) (.int j) = some (.int (i + j)) := Eq.trans rfl rfl
theorem bi_sub (i j : Int) : binD .sub (.int i) (.int j) = some (.int (i - j)) := Eq.trans rfl rfl
theorem bi_mul {i j : Int} (h : mulOk i j = true) : binD .mul (.int i) (.int j) = some (.int (i * j)) := by
  show grd _ _ = _
  rw [h]
  rfl
theorem bi_mod {i j : Int} (h : 0 < j) : binD .mod (.int i) (.int j) = some (.int (i % j)) := by
  show grd _ _ = _
  rw [decide_eq_true h]
  rfl
theorem bi_div {i j : Int} (h : divOk j = true) : binD .fdiv (.int i) (.int j) = some (.int (i / j)) := by
  show grd _ _ = _
  rw [h]
  rfl
theorem bi_add_tup {xs ys : List D} (h : szOk (xs.length + ys.length) = true) : binD .add (.tup xs) (.tup ys) = some (.tup (xs ++ ys)) := by
  show grd _ _ = _
  rw [h]
  rfl
theorem bi_add_lst {xs ys : List D} (h : szOk (xs.length + ys.length) = true) : binD .add (.lst xs) (.lst ys) = some (.lst (xs ++ ys)) := by
  show grd _ _ = _
  rw [h]
  rfl
theorem bi_add_str {x y : Str} (h : szOk (x.length + y.length) = true) : binD .add (.str x) (.str y) = some (.str (x ++ y)) := by
  show grd _ _ = _
  rw [h]
  rfl
theorem mul_small {i j : Int} (h1 : -(2 ^ 64) < i) (h2 : i < 2 ^ 64) : mulOk i j = true := by
  unfold mulOk
  rw [decide_eq_true ⟨h1, h2⟩]
  rfl
theorem rv_str {s : Str} (h : szOk s.length = true) : revD (.str s) = some (.str ⟨s.cps.toList.reverse.toArray⟩) := by
  show grd _ _ = _
  rw [h]
  rfl
theorem rng_one {m : Nat} (h2 : m ≤ 16777216) : rngD [.int (m : Int)] = some ((List.range m).map fun (k : Nat) => D.int (k : Int)) := by
  show grd (in62 (m : Int) && szOk (m : Int).toNat) (rngL 0 (m : Int).toNat 1) = _
  rw [Int.toNat_natCast, sz_le (Nat.le_refl _) h2]
  have : in62 (m : Int) = true := decide_eq_true ⟨by omega, by omega⟩
  rw [this]
  show some (rngL 0 m 1) = _
  unfold rngL

  refine congrArg some (List.map_congr_left fun k _ => ?_)
  rw [Int.zero_add, Int.mul_one]
theorem rng_two {m : Nat} (h2 : m ≤ 16777216) : rngD [.int 1, .int ((m : Int) + 1)] = some ((List.range m).map fun (k : Nat) => D.int ((k + 1 : Nat) : Int)) := by
  show grd (in62 1 && in62 ((m : Int) + 1) && szOk ((m : Int) + 1 - 1).toNat) (rngL 1 ((m : Int) + 1 - 1).toNat 1) = _
  have e : ((m : Int) + 1 - 1).toNat = m := by omega
  rw [e, sz_le (Nat.le_refl _) h2]
  have h1 : in62 1 = true := by decide
  have h3 : in62 ((m : Int) + 1) = true := decide_eq_true ⟨by omega, by omega⟩
  rw [h1, h3]
  show some (rngL 1 m 1) = _
  unfold rngL

  refine congrArg some (List.map_congr_left fun k _ => ?_)
  rw [Int.mul_one, Int.add_comm]
  rfl
/-- range(e), e's value known -/
theorem ev_rng1 {G : Cfg} {e : CE} {pk : Bool} {env : Env} {dr dr1 : List Int} {m : Nat} (hm : m ≤ 16777216) (h : evE G e true env dr = .ok (.int (m : Int)) dr1) : evI G (.rng (.cons e .nil)) pk env dr = .ok ((List.range m).map fun (k : Nat) => D.int (k : Int)) dr1 := by
  have hr := rng_one hm
  rw [evI_rng, evLp_cons, h]
  show (Res.ok [D.int (m : Int)] dr1).bind _ = _
  rw [Res.bind_ok, hr]
  rfl
theorem ev_rng2 {G : Cfg} {e1 e2 : CE} {pk : Bool} {env : Env} {dr dr1 dr2 : List Int} {m : Nat} (hm : m ≤ 16777216) (h1 : evE G e1 true env dr = .ok (.int 1) dr1) (h : evE G e2 true env dr1 = .ok (.int ((m : Int) + 1)) dr2) : evI G (.rng (.cons e1 (.cons e2 .nil))) pk env dr = .ok ((List.range m).map fun (k : Nat) => D.int ((k + 1 : Nat) : Int)) dr2 := by
  have hr := rng_two hm
  rw [evI_rng, evLp_cons, h1]
  show ((evLp G (.cons e2 .nil) env dr1).bind fun ds dr => Res.ok (D.int 1 :: ds) dr).bind _ = _
  rw [evLp_cons, h]
  show (Res.ok [D.int 1, D.int ((m : Int) + 1)] dr2).bind _ = _
  rw [Res.bind_ok, hr]
  rfl
theorem get_0 (a : Sl) (e : Env) : Cr.get (a :: e) 0 = a := Eq.trans rfl rfl
theorem get_1 (a b : Sl) (e : Env) : Cr.get (a :: b :: e) 1 = b := Eq.trans rfl rfl
theorem get_2 (a b c : Sl) (e : Env) : Cr.get (a :: b :: c :: e) 2 = c := Eq.trans rfl rfl
theorem get_3 (a b c d : Sl) (e : Env) : Cr.get (a :: b :: c :: d :: e) 3 = d := Eq.trans rfl rfl
theorem get_4 (a b c d x : Sl) (e : Env) : Cr.get (a :: b :: c :: d :: x :: e) 4 = x := Eq.trans rfl rfl
theorem get_5 (a b c d x y : Sl) (e : Env) : Cr.get (a :: b :: c :: d :: x :: y :: e) 5 = y := Eq.trans rfl rfl
theorem get_6 (a b c d x y z : Sl) (e : Env) : Cr.get (a :: b :: c :: d :: x :: y :: z :: e) 6 = z := Eq.trans rfl rfl
theorem varP_v (d : D) : varP (.val d) = some d := Eq.trans rfl rfl
theorem varP_o (d : D) : varP (.own d) = some d := Eq.trans rfl rfl
theorem varS_v (d : D) : varS (.val d) = some d := Eq.trans rfl rfl
theorem if_tt {α : Type} (a b : α) : (if true = true then a else b) = a := Eq.trans rfl rfl
theorem if_ft {α : Type} (a b : α) : (if false = true then a else b) = b := Eq.trans rfl rfl
theorem asgP_0 (a : Sl) (e : Env) (d : D) : asgP (.nm 0) d (a :: e) = some (.val d :: e) := Eq.trans rfl rfl
theorem asgP_1 (a b : Sl) (e : Env) (d : D) : asgP (.nm 1) d (a :: b :: e) = some (a :: .val d :: e) := by
  show (if 1 < e.length + 1 + 1 then _ else _) = _
  rw [if_pos (by omega)]
  rfl
theorem asgP_2 (a b c : Sl) (e : Env) (d : D) : asgP (.nm 2) d (a :: b :: c :: e) = some (a :: b :: .val d :: e) := by
  show (if 2 < e.length + 1 + 1 + 1 then _ else _) = _
  rw [if_pos (by omega)]
  rfl
theorem asgP_3 (a b c x : Sl) (e : Env) (d : D) : asgP (.nm 3) d (a :: b :: c :: x :: e) = some (a :: b :: c :: .val d :: e) := by
  show (if 3 < e.length + 1 + 1 + 1 + 1 then _ else _) = _
  rw [if_pos (by omega)]
  rfl
theorem asgP_4 (a b c x y : Sl) (e : Env) (d : D) : asgP (.nm 4) d (a :: b :: c :: x :: y :: e) = some (a :: b :: c :: x :: .val d :: e) := by
  show (if 4 < e.length + 1 + 1 + 1 + 1 + 1 then _ else _) = _
  rw [if_pos (by omega)]
  rfl
theorem asgP_5 (a b c x y z : Sl) (e : Env) (d : D) : asgP (.nm 5) d (a :: b :: c :: x :: y :: z :: e) = some (a :: b :: c :: x :: y :: .val d :: e) := by
  show (if 5 < e.length + 1 + 1 + 1 + 1 + 1 + 1 then _ else _) = _
  rw [if_pos (by omega)]
  rfl
theorem ev_for_nx {G : Cfg} {p : Pat} {it : CE} {b k : CS} {env env' : Env} {dr dr1 dr2 : List Int} {xs : List D} (h1 : evI G it false env dr = .ok xs dr1)
    (h2 : forL (fun d env dr => (ofO (asgP p d env) dr).bind fun env dr => evB G b env dr) xs env dr1 = .ok (.nx env') dr2) : evB G (.for_ p it b k) env dr = evB G k env' dr2 := by
  rw [evB_for_, h1, rb_ok, h2, rb_ok]
theorem ev_try_ok {G : Cfg} {x f : Str} {i : Nat} {b k : CS} {env : Env} {dr dr' : List Int} {d : D} (h : evB G b env dr = .ok (.rt d) dr') : evB G (.tryF x f i b k) env dr = .ok (.rt d) dr' := by
  rw [evB_tryF, h]
theorem ev_try_exc {G : Cfg} {x f c : Str} {i : Nat} {b k : CS} {env : Env} {dr dr' : List Int} {d : D} (h : evB G b env dr = .exc ⟨c, none⟩ dr') (h1 : G.sub c x = some true) (h2 : G.flg f c = some d) : evB G (.tryF x f i b k) env dr = .ok (.rt d) dr' := by
  rw [evB_tryF, h]
  dsimp only
  rw [h1]
  dsimp only
  rw [if_pos (show (none : Option D).isNone = true from rfl), h2, oo_some, rb_ok]
theorem get_7 (x0 x1 x2 x3 x4 x5 x6 x7 : Sl) (e : Env) : Cr.get (x0 :: x1 :: x2 :: x3 :: x4 :: x5 :: x6 :: x7 :: e) 7 = x7 := Eq.trans rfl rfl
theorem get_8 (x0 x1 x2 x3 x4 x5 x6 x7 x8 : Sl) (e : Env) : Cr.get (x0 :: x1 :: x2 :: x3 :: x4 :: x5 :: x6 :: x7 :: x8 :: e) 8 = x8 := Eq.trans rfl rfl
theorem get_9 (x0 x1 x2 x3 x4 x5 x6 x7 x8 x9 : Sl) (e : Env) : Cr.get (x0 :: x1 :: x2 :: x3 :: x4 :: x5 :: x6 :: x7 :: x8 :: x9 :: e) 9 = x9 := Eq.trans rfl rfl
theorem get_10 (x0 x1 x2 x3 x4 x5 x6 x7 x8 x9 x10 : Sl) (e : Env) : Cr.get (x0 :: x1 :: x2 :: x3 :: x4 :: x5 :: x6 :: x7 :: x8 :: x9 :: x10 :: e) 10 = x10 := Eq.trans rfl rfl
theorem get_11 (x0 x1 x2 x3 x4 x5 x6 x7 x8 x9 x10 x11 : Sl) (e : Env) : Cr.get (x0 :: x1 :: x2 :: x3 :: x4 :: x5 :: x6 :: x7 :: x8 :: x9 :: x10 :: x11 :: e) 11 = x11 := Eq.trans rfl rfl
theorem get_12 (x0 x1 x2 x3 x4 x5 x6 x7 x8 x9 x10 x11 x12 : Sl) (e : Env) : Cr.get (x0 :: x1 :: x2 :: x3 :: x4 :: x5 :: x6 :: x7 :: x8 :: x9 :: x10 :: x11 :: x12 :: e) 12 = x12 := Eq.trans rfl rfl
theorem get_13 (x0 x1 x2 x3 x4 x5 x6 x7 x8 x9 x10 x11 x12 x13 : Sl) (e : Env) : Cr.get (x0 :: x1 :: x2 :: x3 :: x4 :: x5 :: x6 :: x7 :: x8 :: x9 :: x10 :: x11 :: x12 :: x13 :: e) 13 = x13 := Eq.trans rfl rfl
theorem get_14 (x0 x1 x2 x3 x4 x5 x6 x7 x8 x9 x10 x11 x12 x13 x14 : Sl) (e : Env) : Cr.get (x0 :: x1 :: x2 :: x3 :: x4 :: x5 :: x6 :: x7 :: x8 :: x9 :: x10 :: x11 :: x12 :: x13 :: x14 :: e) 14 = x14 := Eq.trans rfl rfl
theorem get_15 (x0 x1 x2 x3 x4 x5 x6 x7 x8 x9 x10 x11 x12 x13 x14 x15 : Sl) (e : Env) : Cr.get (x0 :: x1 :: x2 :: x3 :: x4 :: x5 :: x6 :: x7 :: x8 :: x9 :: x10 :: x11 :: x12 :: x13 :: x14 :: x15 :: e) 15 = x15 := Eq.trans rfl rfl
theorem get_16 (x0 x1 x2 x3 x4 x5 x6 x7 x8 x9 x10 x11 x12 x13 x14 x15 x16 : Sl) (e : Env) : Cr.get (x0 :: x1 :: x2 :: x3 :: x4 :: x5 :: x6 :: x7 :: x8 :: x9 :: x10 :: x11 :: x12 :: x13 :: x14 :: x15 :: x16 :: e) 16 = x16 := Eq.trans rfl rfl
theorem get_17 (x0 x1 x2 x3 x4 x5 x6 x7 x8 x9 x10 x11 x12 x13 x14 x15 x16 x17 : Sl) (e : Env) : Cr.get (x0 :: x1 :: x2 :: x3 :: x4 :: x5 :: x6 :: x7 :: x8 :: x9 :: x10 :: x11 :: x12 :: x13 :: x14 :: x15 :: x16 :: x17 :: e) 17 = x17 := Eq.trans rfl rfl
theorem asgP_6 (x0 x1 x2 x3 x4 x5 x6 : Sl) (e : Env) (d : D) : asgP (.nm 6) d (x0 :: x1 :: x2 :: x3 :: x4 :: x5 :: x6 :: e) = some (x0 :: x1 :: x2 :: x3 :: x4 :: x5 :: .val d :: e) := by
  show (if 6 < (x0 :: x1 :: x2 :: x3 :: x4 :: x5 :: x6 :: e).length then _ else _) = _
  rw [if_pos (by simp only [List.length_cons]; omega)]
  rfl
theorem asgP_7 (x0 x1 x2 x3 x4 x5 x6 x7 : Sl) (e : Env) (d : D) : asgP (.nm 7) d (x0 :: x1 :: x2 :: x3 :: x4 :: x5 :: x6 :: x7 :: e) = some (x0 :: x1 :: x2 :: x3 :: x4 :: x5 :: x6 :: .val d :: e) := by
  show (if 7 < (x0 :: x1 :: x2 :: x3 :: x4 :: x5 :: x6 :: x7 :: e).length then _ else _) = _
  rw [if_pos (by simp only [List.length_cons]; omega)]
  rfl
theorem asgP_8 (x0 x1 x2 x3 x4 x5 x6 x7 x8 : Sl) (e : Env) (d : D) : asgP (.nm 8) d (x0 :: x1 :: x2 :: x3 :: x4 :: x5 :: x6 :: x7 :: x8 :: e) = some (x0 :: x1 :: x2 :: x3 :: x4 :: x5 :: x6 :: x7 :: .val d :: e) := by
  show (if 8 < (x0 :: x1 :: x2 :: x3 :: x4 :: x5 :: x6 :: x7 :: x8 :: e).length then _ else _) = _
  rw [if_pos (by simp only [List.length_cons]; omega)]
  rfl
theorem asgP_9 (x0 x1 x2 x3 x4 x5 x6 x7 x8 x9 : Sl) (e : Env) (d : D) : asgP (.nm 9) d (x0 :: x1 :: x2 :: x3 :: x4 :: x5 :: x6 :: x7 :: x8 :: x9 :: e) = some (x0 :: x1 :: x2 :: x3 :: x4 :: x5 :: x6 :: x7 :: x8 :: .val d :: e) := by
  show (if 9 < (x0 :: x1 :: x2 :: x3 :: x4 :: x5 :: x6 :: x7 :: x8 :: x9 :: e).length then _ else _) = _
  rw [if_pos (by simp only [List.length_cons]; omega)]
  rfl
theorem asgP_10 (x0 x1 x2 x3 x4 x5 x6 x7 x8 x9 x10 : Sl) (e : Env) (d : D) : asgP (.nm 10) d (x0 :: x1 :: x2 :: x3 :: x4 :: x5 :: x6 :: x7 :: x8 :: x9 :: x10 :: e) = some (x0 :: x1 :: x2 :: x3 :: x4 :: x5 :: x6 :: x7 :: x8 :: x9 :: .val d :: e) := by
  show (if 10 < (x0 :: x1 :: x2 :: x3 :: x4 :: x5 :: x6 :: x7 :: x8 :: x9 :: x10 :: e).length then _ else _) = _
  rw [if_pos (by simp only [List.length_cons]; omega)]
  rfl
theorem asgP_11 (x0 x1 x2 x3 x4 x5 x6 x7 x8 x9 x10 x11 : Sl) (e : Env) (d : D) : asgP (.nm 11) d (x0 :: x1 :: x2 :: x3 :: x4 :: x5 :: x6 :: x7 :: x8 :: x9 :: x10 :: x11 :: e) = some (x0 :: x1 :: x2 :: x3 :: x4 :: x5 :: x6 :: x7 :: x8 :: x9 :: x10 :: .val d :: e) := by
  show (if 11 < (x0 :: x1 :: x2 :: x3 :: x4 :: x5 :: x6 :: x7 :: x8 :: x9 :: x10 :: x11 :: e).length then _ else _) = _
  rw [if_pos (by simp only [List.length_cons]; omega)]
  rfl
theorem asgP_12 (x0 x1 x2 x3 x4 x5 x6 x7 x8 x9 x10 x11 x12 : Sl) (e : Env) (d : D) : asgP (.nm 12) d (x0 :: x1 :: x2 :: x3 :: x4 :: x5 :: x6 :: x7 :: x8 :: x9 :: x10 :: x11 :: x12 :: e) = some (x0 :: x1 :: x2 :: x3 :: x4 :: x5 :: x6 :: x7 :: x8 :: x9 :: x10 :: x11 :: .val d :: e) := by
  show (if 12 < (x0 :: x1 :: x2 :: x3 :: x4 :: x5 :: x6 :: x7 :: x8 :: x9 :: x10 :: x11 :: x12 :: e).length then _ else _) = _
  rw [if_pos (by simp only [List.length_cons]; omega)]
  rfl
theorem asgP_13 (x0 x1 x2 x3 x4 x5 x6 x7 x8 x9 x10 x11 x12 x13 : Sl) (e : Env) (d : D) : asgP (.nm 13) d (x0 :: x1 :: x2 :: x3 :: x4 :: x5 :: x6 :: x7 :: x8 :: x9 :: x10 :: x11 :: x12 :: x13 :: e) = some (x0 :: x1 :: x2 :: x3 :: x4 :: x5 :: x6 :: x7 :: x8 :: x9 :: x10 :: x11 :: x12 :: .val d :: e) := by
  show (if 13 < (x0 :: x1 :: x2 :: x3 :: x4 :: x5 :: x6 :: x7 :: x8 :: x9 :: x10 :: x11 :: x12 :: x13 :: e).length then _ else _) = _
  rw [if_pos (by simp only [List.length_cons]; omega)]
  rfl
theorem asgP_14 (x0 x1 x2 x3 x4 x5 x6 x7 x8 x9 x10 x11 x12 x13 x14 : Sl) (e : Env) (d : D) : asgP (.nm 14) d (x0 :: x1 :: x2 :: x3 :: x4 :: x5 :: x6 :: x7 :: x8 :: x9 :: x10 :: x11 :: x12 :: x13 :: x14 :: e) = some (x0 :: x1 :: x2 :: x3 :: x4 :: x5 :: x6 :: x7 :: x8 :: x9 :: x10 :: x11 :: x12 :: x13 :: .val d :: e) := by
  show (if 14 < (x0 :: x1 :: x2 :: x3 :: x4 :: x5 :: x6 :: x7 :: x8 :: x9 :: x10 :: x11 :: x12 :: x13 :: x14 :: e).length then _ else _) = _
  rw [if_pos (by simp only [List.length_cons]; omega)]
  rfl
theorem asgP_15 (x0 x1 x2 x3 x4 x5 x6 x7 x8 x9 x10 x11 x12 x13 x14 x15 : Sl) (e : Env) (d : D) : asgP (.nm 15) d (x0 :: x1 :: x2 :: x3 :: x4 :: x5 :: x6 :: x7 :: x8 :: x9 :: x10 :: x11 :: x12 :: x13 :: x14 :: x15 :: e) = some (x0 :: x1 :: x2 :: x3 :: x4 :: x5 :: x6 :: x7 :: x8 :: x9 :: x10 :: x11 :: x12 :: x13 :: x14 :: .val d :: e) := by
  show (if 15 < (x0 :: x1 :: x2 :: x3 :: x4 :: x5 :: x6 :: x7 :: x8 :: x9 :: x10 :: x11 :: x12 :: x13 :: x14 :: x15 :: e).length then _ else _) = _
  rw [if_pos (by simp only [List.length_cons]; omega)]
  rfl
theorem asgP_16 (x0 x1 x2 x3 x4 x5 x6 x7 x8 x9 x10 x11 x12 x13 x14 x15 x16 : Sl) (e : Env) (d : D) : asgP (.nm 16) d (x0 :: x1 :: x2 :: x3 :: x4 :: x5 :: x6 :: x7 :: x8 :: x9 :: x10 :: x11 :: x12 :: x13 :: x14 :: x15 :: x16 :: e) = some (x0 :: x1 :: x2 :: x3 :: x4 :: x5 :: x6 :: x7 :: x8 :: x9 :: x10 :: x11 :: x12 :: x13 :: x14 :: x15 :: .val d :: e) := by
  show (if 16 < (x0 :: x1 :: x2 :: x3 :: x4 :: x5 :: x6 :: x7 :: x8 :: x9 :: x10 :: x11 :: x12 :: x13 :: x14 :: x15 :: x16 :: e).length then _ else _) = _
  rw [if_pos (by simp only [List.length_cons]; omega)]
  rfl
theorem asgP_17 (x0 x1 x2 x3 x4 x5 x6 x7 x8 x9 x10 x11 x12 x13 x14 x15 x16 x17 : Sl) (e : Env) (d : D) : asgP (.nm 17) d (x0 :: x1 :: x2 :: x3 :: x4 :: x5 :: x6 :: x7 :: x8 :: x9 :: x10 :: x11 :: x12 :: x13 :: x14 :: x15 :: x16 :: x17 :: e) = some (x0 :: x1 :: x2 :: x3 :: x4 :: x5 :: x6 :: x7 :: x8 :: x9 :: x10 :: x11 :: x12 :: x13 :: x14 :: x15 :: x16 :: .val d :: e) := by
  show (if 17 < (x0 :: x1 :: x2 :: x3 :: x4 :: x5 :: x6 :: x7 :: x8 :: x9 :: x10 :: x11 :: x12 :: x13 :: x14 :: x15 :: x16 :: x17 :: e).length then _ else _) = _
  rw [if_pos (by simp only [List.length_cons]; omega)]
  rfl
theorem setSl_i {env : Env} {i : Nat} {s : Sl} (h : i < env.length) : setSl env i s = some (env.set i s) := if_pos h
end Cr
namespace K07
open PySem Cr
def b_is_integer : CS := (.ret (.and (.cons (.isi (.var 0) .int) (.cons (.not (.isi (.var 0) .bool)) .nil))))
def dd_is_integer : DD := ⟨"is_integer", ["value"], 1, b_is_integer⟩
def b_is_within : CS := (.ret (.and (.cons (.call "is_integer" (.cons (.var 0) .nil)) (.cons (.cmp2 .le .le (.var 1) (.var 0) (.var 2)) .nil))))
def dd_is_within : DD := ⟨"is_within", ["value", "low", "high"], 3, b_is_within⟩
def b_check : CS := (.ifs (.not (.var 0)) (.rse "NotRight" .nil) .done .done)
def dd_check : DD := ⟨"check", ["is_right"], 1, b_check⟩
def b_is_row : CS := (.ret (.and (.cons (.isi (.var 0) .str) (.cons (.cmp .eq (.blt .len (.cons (.var 0) .nil)) (.var 1)) (.cons (.blt .all (.cons (.lc (.nm 2) (.cons (.var 0) .nil) .nil (.cmp .in_ (.var 2) (.glo "SIGNS"))) .nil)) .nil)))))
def dd_is_row : DD := ⟨"is_row", ["value", "wide", "sign"], 2, b_is_row⟩
def b_is_roll : CS := (.ifs (.or (.cons (.not (.isi (.var 0) .tuple)) (.cons (.not (.cmp2 .le .le (.int 1) (.blt .len (.cons (.var 0) .nil)) (.glo "MOST_ROWS"))) (.cons (.not (.isi (.ix (.var 0) (.int 0)) .str)) .nil)))) (.ret (.bl false)) .done (.ret (.and (.cons (.cmp2 .le .le (.int 1) (.blt .len (.cons (.ix (.var 0) (.int 0)) .nil)) (.glo "WIDEST")) (.cons (.blt .all (.cons (.lc (.nm 1) (.cons (.var 0) .nil) .nil (.call "is_row" (.cons (.var 1) (.cons (.blt .len (.cons (.ix (.var 0) (.int 0)) .nil)) .nil)))) .nil)) .nil)))))
def dd_is_roll : DD := ⟨"is_roll", ["value", "row"], 1, b_is_roll⟩
def b_check_roll : CS := (.ex (.call "check" (.cons (.call "is_roll" (.cons (.var 0) .nil)) .nil)) .done)
def dd_check_roll : DD := ⟨"check_roll", ["roll"], 1, b_check_roll⟩
def b_glued : CS := (.ex (.call "check_roll" (.cons (.var 0) .nil)) (.ex (.call "check_roll" (.cons (.var 1) .nil)) (.ex (.call "check" (.cons (.and (.cons (.cmp .eq (.blt .len (.cons (.ix (.var 0) (.int 0)) .nil)) (.blt .len (.cons (.ix (.var 1) (.int 0)) .nil))) (.cons (.cmp .le (.bin .add (.blt .len (.cons (.var 0) .nil)) (.blt .len (.cons (.var 1) .nil))) (.glo "MOST_ROWS")) .nil))) .nil)) (.ret (.bin .add (.var 0) (.var 1))))))
def dd_glued : DD := ⟨"glued", ["one", "other"], 2, b_glued⟩
def b_over : CS := (.ret (.blt .tuple (.cons (.lc (.nm 1) (.cons (.var 0) .nil) .nil (.rev (.var 1))) .nil)))
def dd_over : DD := ⟨"over", ["roll", "row"], 1, b_over⟩
def b_turned_over : CS := (.ex (.call "check_roll" (.cons (.var 0) .nil)) (.ret (.call "over" (.cons (.var 0) .nil))))
def dd_turned_over : DD := ⟨"turned_over", ["roll"], 1, b_turned_over⟩
def b_round_of : CS := (.ret (.ife (.var 1) (.bin .add (.var 0) (.call "over" (.cons (.var 0) .nil))) (.var 0)))
def dd_round_of : DD := ⟨"round_of", ["roll", "is_twisted"], 2, b_round_of⟩
def b_strip_rows : CS := (.ex (.call "check_roll" (.cons (.var 0) .nil)) (.ex (.call "check" (.cons (.and (.cons (.isi (.var 1) .bool) (.cons (.call "is_within" (.cons (.var 2) (.cons (.int 0) (.cons (.glo "MOST_PLAYED") .nil)))) .nil))) .nil)) (.asg (.nm 3) (.call "round_of" (.cons (.var 0) (.cons (.var 1) .nil))) (.ret (.blt .tuple (.cons (.lc (.nm 4) (.rng (.cons (.var 2) .nil)) .nil (.ix (.var 3) (.bin .mod (.var 4) (.blt .len (.cons (.var 3) .nil))))) .nil))))))
def dd_strip_rows : DD := ⟨"strip_rows", ["roll", "is_twisted", "much", "whole", "at"], 3, b_strip_rows⟩
def b_strip_period : CS := (.ex (.call "check_roll" (.cons (.var 0) .nil)) (.ex (.call "check" (.cons (.isi (.var 1) .bool) .nil)) (.asg (.nm 2) (.call "round_of" (.cons (.var 0) (.cons (.var 1) .nil))) (.asg (.nm 3) (.lc (.nm 4) (.rng (.cons (.int 1) (.cons (.bin .add (.blt .len (.cons (.var 2) .nil)) (.int 1)) .nil))) (.cons (.cmp .eq (.bin .mod (.blt .len (.cons (.var 2) .nil)) (.var 4)) (.int 0)) .nil) (.var 4)) (.ret (.ix (.lc (.nm 4) (.cons (.var 3) .nil) (.cons (.cmp .eq (.bin .add (.sl (.var 2) (.cons (.var 4) .nil) .nil) (.sl (.var 2) .nil (.cons (.var 4) .nil))) (.var 2)) .nil) (.var 4)) (.int 0)))))))
def dd_strip_period : DD := ⟨"strip_period", ["roll", "is_twisted", "whole", "fits", "p"], 2, b_strip_period⟩
def b__law_draws : CS := (.own 1 (.lst .nil) (.asg (.nm 2) (.int 11) (.for_ (.nm 3) (.cons (.var 0) .nil) (.asg (.nm 5) (.blt .abs (.cons (.blt .int (.cons (.var 3) .nil)) .nil)) (.asg (.nm 2) (.bin .mod (.blt .int (.cons (.bin .add (.bin .add (.bin .mul (.var 2) (.int 48271)) (.var 5)) (.int 1)) .nil)) (.int 2147483647)) (.ifs (.cmp .lt (.var 5) (.bin .pow (.int 10) (.int 18))) (.app 1 (.bin .mod (.blt .int (.cons (.var 5) .nil)) (.int 997)) (.app 1 (.bin .mod (.blt .int (.cons (.var 2) .nil)) (.int 65521)) (.asg (.nm 5) (.int 0) .done))) .done (.for_ (.nm 4) (.rng (.cons (.int 60) .nil)) (.ifs (.cmp .gt (.var 5) (.int 0)) (.app 1 (.bin .mod (.blt .int (.cons (.var 5) .nil)) (.int 997)) (.asg (.nm 5) (.bin .fdiv (.var 5) (.int 997)) .done)) .done .done) .done)))) (.for_ (.nm 4) (.rng (.cons (.int 700) .nil)) (.asg (.nm 2) (.bin .mod (.blt .int (.cons (.bin .add (.bin .mul (.var 2) (.int 48271)) (.int 69621)) .nil)) (.int 2147483647)) (.app 1 (.bin .fdiv (.var 2) (.int 5)) .done)) (.ret (.lrev (.var 1)))))))
def dd__law_draws : DD := ⟨"_law_draws", ["script", "draws", "seed", "cell", "k", "number"], 1, b__law_draws⟩
def b__law_take : CS := (.ifs (.cmp .eq (.dlen 0) (.int 0)) (.ret (.int 0)) .done (.ret (.bin .mod (.blt .int (.cons (.dpop 0) .nil)) (.var 1))))
def dd__law_take : DD := ⟨"_law_take", ["draws", "bound"], 2, b__law_take⟩
def b__law_pick : CS := (.ret (.ix (.var 1) (.call "_law_take" (.cons (.var 0) (.cons (.blt .len (.cons (.var 1) .nil)) .nil)))))
def dd__law_pick : DD := ⟨"_law_pick", ["draws", "some"], 2, b__law_pick⟩
def b__law_same : CS := (.ifs (.isN (.var 1)) (.ret (.isN (.var 0))) .done (.ifs (.or (.cons (.isi (.var 1) .tuple) (.cons (.isi (.var 1) .list) .nil))) (.ifs (.or (.cons (.cmp .ne (.isi (.var 1) .tuple) (.isi (.var 0) .tuple)) (.cons (.cmp .ne (.isi (.var 1) .list) (.isi (.var 0) .list)) .nil))) (.ret (.bl false)) .done (.ifs (.cmp .ne (.blt .len (.cons (.var 0) .nil)) (.blt .len (.cons (.var 1) .nil))) (.ret (.bl false)) .done (.for_ (.nm 2) (.rng (.cons (.blt .len (.cons (.var 1) .nil)) .nil)) (.ifs (.not (.call "_law_same" (.cons (.ix (.var 0) (.var 2)) (.cons (.ix (.var 1) (.var 2)) .nil)))) (.ret (.bl false)) .done .done) (.ret (.bl true))))) .done (.ifs (.isi (.var 1) .dict) (.ifs (.or (.cons (.not (.isi (.var 0) .dict)) (.cons (.cmp .ne (.blt .len (.cons (.var 0) .nil)) (.blt .len (.cons (.var 1) .nil))) .nil))) (.ret (.bl false)) .done (.ret (.cmp .eq (.lc (.nm 3) (.cons (.var 1) .nil) (.cons (.or (.cons (.cmp .notin (.var 3) (.var 0)) (.cons (.not (.call "_law_same" (.cons (.ix (.var 0) (.var 3)) (.cons (.ix (.var 1) (.var 3)) .nil)))) .nil))) .nil) (.var 3)) (.lst .nil)))) .done (.ifs (.cmp .ne (.isi (.var 1) .bool) (.isi (.var 0) .bool)) (.ret (.bl false)) .done (.ifs (.or (.cons (.cmp .ne (.isi (.var 1) .int) (.isi (.var 0) .int)) (.cons (.cmp .ne (.isi (.var 1) .str) (.isi (.var 0) .str)) .nil))) (.ret (.bl false)) .done (.ret (.cmp .eq (.var 0) (.var 1))))))))
def dd__law_same : DD := ⟨"_law_same", ["actual", "due", "k", "key"], 2, b__law_same⟩
def b__law_roll : CS := (.asg (.nm 1) (.bin .add (.int 1) (.call "_law_take" (.cons (.var 0) (.cons (.int 6) .nil)))) (.asg (.nm 2) (.lc (.nm 4) (.rng (.cons (.bin .add (.int 1) (.call "_law_take" (.cons (.var 0) (.cons (.int 5) .nil)))) .nil)) .nil (.meth .join (.str "") (.cons (.lc (.nm 5) (.rng (.cons (.var 1) .nil)) .nil (.ix (.str ".o") (.call "_law_take" (.cons (.var 0) (.cons (.int 2) .nil))))) .nil))) (.asg (.nm 3) (.call "_law_take" (.cons (.var 0) (.cons (.int 5) .nil))) (.ifs (.cmp .eq (.var 3) (.int 0)) (.asg (.nm 2) (.bin .add (.var 2) (.var 2)) .done) (.ifs (.cmp .eq (.var 3) (.int 1)) (.asg (.nm 2) (.bin .add (.var 2) (.lc (.nm 4) (.cons (.var 2) .nil) .nil (.rev (.var 4)))) .done) (.ifs (.cmp .eq (.var 3) (.int 2)) (.asg (.nm 2) (.lc (.nm 4) (.cons (.var 2) .nil) .nil (.bin .add (.bin .add (.sl (.var 4) .nil (.cons (.bin .fdiv (.var 1) (.int 2)) .nil)) (.bin .mul (.str "o") (.blt .int (.cons (.bin .sub (.var 1) (.bin .mul (.int 2) (.bin .fdiv (.var 1) (.int 2)))) .nil)))) (.rev (.sl (.var 4) .nil (.cons (.bin .fdiv (.var 1) (.int 2)) .nil))))) .done) (.ifs (.cmp .eq (.var 3) (.int 3)) (.asg (.nm 2) (.bin .add (.bin .add (.var 2) (.lc (.nm 4) (.cons (.var 2) .nil) .nil (.rev (.var 4)))) (.var 2)) .done) .done .done) .done) .done) (.ret (.blt .tuple (.cons (.var 2) .nil)))))))
def dd__law_roll : DD := ⟨"_law_roll", ["draws", "wide", "part", "kind", "row", "place"], 1, b__law_roll⟩
def b__law_row : CS := (.asg (.nm 3) (.ix (.var 0) (.bin .mod (.blt .int (.cons (.var 2) .nil)) (.blt .len (.cons (.var 0) .nil)))) (.ret (.ix (.lst (.cons (.var 3) (.cons (.rev (.var 3)) .nil))) (.bin .mul (.blt .int (.cons (.var 1) .nil)) (.bin .mod (.blt .int (.cons (.bin .fdiv (.var 2) (.blt .len (.cons (.var 0) .nil))) .nil)) (.int 2))))))
def dd__law_row : DD := ⟨"_law_row", ["roll", "is_twisted", "t", "row"], 3, b__law_row⟩
def b__law_period : CS := (.asg (.nm 2) (.bin .mul (.blt .len (.cons (.var 0) .nil)) (.bin .add (.int 1) (.blt .int (.cons (.var 1) .nil)))) (.asg (.nm 3) (.lc (.nm 4) (.rng (.cons (.bin .mul (.int 2) (.var 2)) .nil)) .nil (.call "_law_row" (.cons (.var 0) (.cons (.var 1) (.cons (.var 4) .nil))))) (.ret (.ix (.lc (.nm 5) (.rng (.cons (.int 1) (.cons (.bin .add (.var 2) (.int 1)) .nil))) (.cons (.and (.cons (.cmp .eq (.sl (.var 3) (.cons (.var 5) .nil) .nil) (.sl (.var 3) .nil (.cons (.bin .sub (.blt .len (.cons (.var 3) .nil)) (.var 5)) .nil))) (.cons (.cmp .eq (.bin .mod (.blt .int (.cons (.var 2) .nil)) (.var 5)) (.int 0)) .nil))) .nil) (.var 5)) (.int 0)))))
def dd__law_period : DD := ⟨"_law_period", ["roll", "is_twisted", "whole", "rows", "t", "p"], 2, b__law_period⟩
def b__law_told : CS := (.tryF "TuneError" "_law_flags" 4 (.ifs (.cmp .eq (.var 0) (.int 0)) (.ret (.call "strip_rows" (.cons (.var 1) (.cons (.var 2) (.cons (.var 3) .nil))))) .done (.ret (.call "strip_period" (.cons (.var 1) (.cons (.var 2) .nil))))) .done)
def dd__law_told : DD := ⟨"_law_told", ["which", "roll", "is_twisted", "much", "e"], 4, b__law_told⟩
def b_law : CS := (.asg (.nm 2) (.lst (.cons (.bl true) (.cons (.bl false) (.cons (.bl false) (.cons (.bl false) (.cons (.bl false) .nil)))))) (.for_ (.nm 3) (.rng (.cons (.int 5) .nil)) (.asg (.nm 5) (.call "_law_roll" (.cons (.var 1) .nil)) (.for_ (.nm 6) (.cons (.lst (.cons (.bl false) (.cons (.bl true) .nil))) .nil) (.par 13 14 (.call "_law_take" (.cons (.var 1) (.cons (.int 60) .nil))) (.call "_law_period" (.cons (.var 5) (.cons (.var 6) .nil))) (.asg (.nm 10) (.lst (.cons (.blt .tuple (.cons (.lc (.nm 17) (.rng (.cons (.var 13) .nil)) .nil (.call "_law_row" (.cons (.var 5) (.cons (.var 6) (.cons (.var 17) .nil))))) .nil)) (.cons (.var 14) .nil))) (.ifs (.not (.call "_law_same" (.cons (.lst (.cons (.call "_law_told" (.cons (.int 0) (.cons (.var 5) (.cons (.var 6) (.cons (.var 13) .nil))))) (.cons (.call "_law_told" (.cons (.int 1) (.cons (.var 5) (.cons (.var 6) (.cons (.int 0) .nil))))) .nil))) (.cons (.var 10) .nil)))) (.ret (.bl false)) .done (.asg (.nm 11) (.call "strip_rows" (.cons (.var 5) (.cons (.var 6) (.cons (.bin .mul (.int 4) (.blt .len (.cons (.var 5) .nil))) .nil)))) (.asg (.nm 12) (.lc (.nm 15) (.rng (.cons (.int 1) (.cons (.bin .add (.bin .mul (.int 2) (.blt .len (.cons (.var 5) .nil))) (.int 1)) .nil))) (.cons (.cmp .eq (.sl (.var 11) (.cons (.var 15) .nil) .nil) (.sl (.var 11) .nil (.cons (.bin .sub (.blt .len (.cons (.var 11) .nil)) (.var 15)) .nil))) .nil) (.var 15)) (.ifs (.cmp .ne (.ix (.var 12) (.int 0)) (.var 14)) (.ret (.bl false)) .done .done)))))) (.asg (.nm 7) (.call "glued" (.cons (.var 5) (.cons (.call "turned_over" (.cons (.var 5) .nil)) .nil))) (.ifs (.not (.call "_law_same" (.cons (.lst (.cons (.call "strip_rows" (.cons (.var 7) (.cons (.bl false) (.cons (.int 50) .nil)))) (.cons (.call "strip_period" (.cons (.var 7) (.cons (.bl false) .nil))) .nil))) (.cons (.lst (.cons (.call "strip_rows" (.cons (.var 5) (.cons (.bl true) (.cons (.int 50) .nil)))) (.cons (.call "strip_period" (.cons (.var 5) (.cons (.bl true) .nil))) .nil))) .nil)))) (.ret (.bl false)) .done (.asg (.nm 8) (.call "_law_pick" (.cons (.var 1) (.cons (.lst (.cons .non (.cons (.tup .nil) (.cons (.tup (.cons (.str "") .nil)) (.cons (.tup (.cons (.str "x") .nil)) (.cons (.lst (.cons (.str "o") .nil)) (.cons (.tup (.cons (.str ".") (.cons (.str "..") .nil))) .nil))))))) .nil))) (.asg (.nm 9) (.bin .add (.lst (.cons (.call "_law_told" (.cons (.int 0) (.cons (.var 8) (.cons (.bl false) (.cons (.int 1) .nil))))) (.cons (.call "_law_told" (.cons (.int 1) (.cons (.var 8) (.cons (.bl true) (.cons (.int 0) .nil))))) .nil))) (.lc (.nm 16) (.cons (.lst (.cons (.int 0) (.cons (.int 1) .nil))) .nil) .nil (.call "_law_told" (.cons (.var 16) (.cons (.var 5) (.cons (.call "_law_pick" (.cons (.var 1) (.cons (.lst (.cons .non (.cons (.int 0) (.cons (.int 1) (.cons (.str "True") .nil))))) .nil))) (.cons (.int 1) .nil))))))) (.asg (.nm 9) (.bin .add (.var 9) (.lc (.nm 13) (.cons (.lst (.cons (.neg (.int 1)) (.cons (.int 5001) (.cons .non (.cons (.bl true) .nil))))) .nil) .nil (.call "_law_told" (.cons (.int 0) (.cons (.var 5) (.cons (.bl true) (.cons (.var 13) .nil))))))) (.ifs (.not (.call "_law_same" (.cons (.var 9) (.cons (.bin .mul (.lst (.cons (.var 2) .nil)) (.int 8)) .nil)))) (.ret (.bl false)) .done .done)))))))) (.asg (.nm 4) (.lst (.cons (.call "strip_period" (.cons (.tup (.cons (.str "o.") (.cons (.str ".o") .nil))) (.cons (.bl false) .nil))) (.cons (.call "strip_period" (.cons (.tup (.cons (.str "o.") .nil)) (.cons (.bl true) .nil))) (.cons (.call "strip_period" (.cons (.tup (.cons (.str "oo") (.cons (.str "..") .nil))) (.cons (.bl true) .nil))) (.cons (.call "strip_rows" (.cons (.tup (.cons (.str "o..") .nil)) (.cons (.bl true) (.cons (.int 3) .nil)))) (.cons (.blt .len (.cons (.call "strip_rows" (.cons (.tup (.cons (.str "o") .nil)) (.cons (.bl true) (.cons (.int 5000) .nil)))) .nil)) .nil)))))) (.ret (.call "_law_same" (.cons (.var 4) (.cons (.lst (.cons (.int 2) (.cons (.int 2) (.cons (.int 2) (.cons (.tup (.cons (.str "o..") (.cons (.str "..o") (.cons (.str "o..") .nil)))) (.cons (.int 5000) .nil)))))) .nil)))))))
def dd_law : DD := ⟨"law", ["script", "draws", "refused", "turn", "got", "roll", "is_twisted", "both", "bad", "odd", "due", "rows", "again", "much", "period", "p", "which", "t"], 1, b_law⟩
def pr : Pr where
  ds := [dd_is_integer, dd_is_within, dd_check, dd_is_row, dd_is_roll, dd_check_roll, dd_glued, dd_over, dd_turned_over, dd_round_of, dd_strip_rows, dd_strip_period, dd__law_draws, dd__law_take, dd__law_pick, dd__law_same, dd__law_roll, dd__law_row, dd__law_period, dd__law_told]
  cons := [("MOST_ROWS", .int (2000)), ("WIDEST", .int (88)), ("MOST_PLAYED", .int (5000)), ("SIGNS", .str "o.")]
  bl := ["len", "abs", "all", "int", "list", "tuple", "str", "bool", "dict", "isinstance", "range", "reversed"]
  exc := ["NotRight"]
  tcl := ["TuneError"]
  flg := [("_law_flags", "e", ["NotRight", "NotThere", "NoAnswer", "TooLarge", "Malformed"])]
  err := ["NotRight"]
  isub := fun a b => a == b || (a == ("NotRight" : PySem.Str) && b == ("TuneError" : PySem.Str))
  fuel := 1000000
end K07

namespace K07
open PySem Cr
theorem f_is_integer (j : Nat) : (pr.at (j + 1)).fns "is_integer" = some (callD (pr.at j) 1 b_is_integer) := by kernel_rfl
theorem f_is_within (j : Nat) : (pr.at (j + 1)).fns "is_within" = some (callD (pr.at j) 3 b_is_within) := by kernel_rfl
theorem f_check (j : Nat) : (pr.at (j + 1)).fns "check" = some (callD (pr.at j) 1 b_check) := by kernel_rfl
theorem f_is_row (j : Nat) : (pr.at (j + 1)).fns "is_row" = some (callD (pr.at j) 3 b_is_row) := by kernel_rfl
theorem f_is_roll (j : Nat) : (pr.at (j + 1)).fns "is_roll" = some (callD (pr.at j) 2 b_is_roll) := by kernel_rfl
theorem f_check_roll (j : Nat) : (pr.at (j + 1)).fns "check_roll" = some (callD (pr.at j) 1 b_check_roll) := by kernel_rfl
theorem f_glued (j : Nat) : (pr.at (j + 1)).fns "glued" = some (callD (pr.at j) 2 b_glued) := by kernel_rfl
theorem f_over (j : Nat) : (pr.at (j + 1)).fns "over" = some (callD (pr.at j) 2 b_over) := by kernel_rfl
theorem f_turned_over (j : Nat) : (pr.at (j + 1)).fns "turned_over" = some (callD (pr.at j) 1 b_turned_over) := by kernel_rfl
theorem f_round_of (j : Nat) : (pr.at (j + 1)).fns "round_of" = some (callD (pr.at j) 2 b_round_of) := by kernel_rfl
theorem f_strip_rows (j : Nat) : (pr.at (j + 1)).fns "strip_rows" = some (callD (pr.at j) 5 b_strip_rows) := by kernel_rfl
theorem f_strip_period (j : Nat) : (pr.at (j + 1)).fns "strip_period" = some (callD (pr.at j) 5 b_strip_period) := by kernel_rfl
theorem f__law_draws (j : Nat) : (pr.at (j + 1)).fns "_law_draws" = some (callD (pr.at j) 6 b__law_draws) := by kernel_rfl
theorem f__law_take (j : Nat) : (pr.at (j + 1)).fns "_law_take" = some (callD (pr.at j) 2 b__law_take) := by kernel_rfl
theorem f__law_pick (j : Nat) : (pr.at (j + 1)).fns "_law_pick" = some (callD (pr.at j) 2 b__law_pick) := by kernel_rfl
theorem f__law_same (j : Nat) : (pr.at (j + 1)).fns "_law_same" = some (callD (pr.at j) 4 b__law_same) := by kernel_rfl
theorem f__law_roll (j : Nat) : (pr.at (j + 1)).fns "_law_roll" = some (callD (pr.at j) 6 b__law_roll) := by kernel_rfl
theorem f__law_row (j : Nat) : (pr.at (j + 1)).fns "_law_row" = some (callD (pr.at j) 4 b__law_row) := by kernel_rfl
theorem f__law_period (j : Nat) : (pr.at (j + 1)).fns "_law_period" = some (callD (pr.at j) 6 b__law_period) := by kernel_rfl
theorem f__law_told (j : Nat) : (pr.at (j + 1)).fns "_law_told" = some (callD (pr.at j) 5 b__law_told) := by kernel_rfl
theorem c_MOST_ROWS (j : Nat) : (pr.at j).cons "MOST_ROWS" = some (.int (2000)) := by cases j <;> kernel_rfl
theorem c_WIDEST (j : Nat) : (pr.at j).cons "WIDEST" = some (.int (88)) := by cases j <;> kernel_rfl
theorem c_MOST_PLAYED (j : Nat) : (pr.at j).cons "MOST_PLAYED" = some (.int (5000)) := by cases j <;> kernel_rfl
theorem c_SIGNS (j : Nat) : (pr.at j).cons "SIGNS" = some (.str "o.") := by cases j <;> kernel_rfl
end K07

namespace K07
open PySem Cr
theorem is_integer_int (j : Nat) (i : Int) (dr : List Int) : callD (pr.at j) 1 b_is_integer [.int i] dr = .ok (.bl true) dr := by kernel_rfl
theorem is_integer_bl (j : Nat) (i : Bool) (dr : List Int) : callD (pr.at j) 1 b_is_integer [.bl i] dr = .ok (.bl false) dr := by kernel_rfl
theorem is_integer_non (j : Nat) (dr : List Int) : callD (pr.at j) 1 b_is_integer [.non] dr = .ok (.bl false) dr := by kernel_rfl
theorem is_within_int (j : Nat) (i lo hi : Int) (dr : List Int) : callD (pr.at (j + 1)) 3 b_is_within [.int i, .int lo, .int hi] dr = .ok (.bl (decide (lo ≤ i) && decide (i ≤ hi))) dr := by
  unfold callD b_is_within
  simp [evE_var, evE_non, evE_bl, evE_int, evE_str, evE_glo, evE_fnv, evE_bin, evE_neg, evE_cmp, evE_cmp2, evE_isN, evE_notN, evE_and, evE_or, evE_not, evE_ife, evE_tup, evE_lst, evE_dicE, evE_call, evE_callv, evE_blt, evE_isi, evE_meth, evE_ix, evE_sl, evE_rev, evE_dpop, evE_dlen, evE_lrev, evT_not, evT_and, evT_or, evT_cmp, evT_cmp2, evT_isN, evT_notN, evT_call, evT_blt, evT_isi, evT_var, evT_ix, evL_nil, evL_cons, evL_scons, evLp_nil, evLp_cons, evO_nil, evI_rng, evI_enum, evI_zip, evI_items, evI_vals, evB_done, evB_ex, evB_asg, evB_own, evB_par, evB_par3, evB_aug, evB_app, evB_ext, evB_setI, evB_augI, evB_popS, evB_popD, evB_frz, evB_ifs, evB_brk, evB_cnt, evB_ret, evB_ret0, evB_dead, evO_one, evI_one, evTs_nil, evTs_one, evB_rse0, evAnd_1, evOr_1, evTand_1, evTor_1, evAnd_2, evOr_2, evTand_2, evTor_2, rb_ok, rb_exc, rb_bad, oo_some, Cr.get, varP, varS, asgP, setSl, grd, noX, -List.map_map, -List.map_append, f_is_integer, is_integer_int, cmpD, leD]
  cases decide (lo ≤ i) <;> rfl
theorem is_within_non (j : Nat) (lo hi : Int) (dr : List Int) : callD (pr.at (j + 1)) 3 b_is_within [.non, .int lo, .int hi] dr = .ok (.bl false) dr := by kernel_rfl
theorem is_within_bl (j : Nat) (b : Bool) (lo hi : Int) (dr : List Int) : callD (pr.at (j + 1)) 3 b_is_within [.bl b, .int lo, .int hi] dr = .ok (.bl false) dr := by kernel_rfl
theorem check_t (j : Nat) (dr : List Int) : callD (pr.at j) 1 b_check [.bl true] dr = .ok .non dr := by kernel_rfl
theorem check_f (j : Nat) (dr : List Int) : callD (pr.at j) 1 b_check [.bl false] dr = .exc ⟨"NotRight", none⟩ dr := by kernel_rfl
/-! ### rolls -/
def Row (w : Nat) (s : Str) : Prop := s.length = w ∧ ∀ c ∈ s.cps.toList, c = 111 ∨ c = 46
structure Roll (w : Nat) (A : List Str) : Prop where
  w1 : 1 ≤ w
  w2 : w ≤ 88
  ne : A ≠ []
  len : A.length ≤ 2000
  rows : ∀ s ∈ A, Row w s
theorem sz88 {n : Nat} (h : n ≤ 2000) : szOk n = true := by
  unfold szOk
  rw [sizeLine_eq]
  exact decide_eq_true (by omega)
theorem filterMap_some {α β : Type} (f : α → β) (l : List α) : l.filterMap (fun x => some (f x)) = l.map f := by
  induction l with
  | nil => rfl
  | cons x l ih => simp [evE_var, evE_non, evE_bl, evE_int, evE_str, evE_glo, evE_fnv, evE_bin, evE_neg, evE_cmp, evE_cmp2, evE_isN, evE_notN, evE_and, evE_or, evE_not, evE_ife, evE_tup, evE_lst, evE_dicE, evE_call, evE_callv, evE_blt, evE_isi, evE_meth, evE_ix, evE_sl, evE_rev, evE_dpop, evE_dlen, evE_lrev, evT_not, evT_and, evT_or, evT_cmp, evT_cmp2, evT_isN, evT_notN, evT_call, evT_blt, evT_isi, evT_var, evT_ix, evL_nil, evL_cons, evL_scons, evLp_nil, evLp_cons, evO_nil, evI_rng, evI_enum, evI_zip, evI_items, evI_vals, evB_done, evB_ex, evB_asg, evB_own, evB_par, evB_par3, evB_aug, evB_app, evB_ext, evB_setI, evB_augI, evB_popS, evB_popD, evB_frz, evB_ifs, evB_brk, evB_cnt, evB_ret, evB_ret0, evB_dead, evO_one, evI_one, evTs_nil, evTs_one, evB_rse0, evAnd_1, evOr_1, evTand_1, evTor_1, evAnd_2, evOr_2, evTand_2, evTor_2, rb_ok, rb_exc, rb_bad, oo_some, Cr.get, varP, varS, asgP, setSl, grd, noX, -List.map_map, -List.map_append, ih]
theorem is_row_ok (j : Nat) {w : Nat} {s : Str} (hw : w ≤ 88) (h : Row w s) (dr : List Int) : callD (pr.at j) 3 b_is_row [.str s, .int w] dr = .ok (.bl true) dr := by
  have hz : szOk s.length = true := sz88 (by rw [h.1]; omega)
  have hlc : evE (pr.at j) (.lc (.nm 2) (.cons (.var 0) .nil) .nil (.cmp .in_ (.var 2) (.glo "SIGNS"))) true [.val (.str s), .val (.int w), .no] dr = .ok (.lst ((s.cps.toList.map fun c => D.str ⟨#[c]⟩).map fun _ => .bl true)) dr := by
    refine ev_lcm _ (by simp [evE_var, evE_non, evE_bl, evE_int, evE_str, evE_glo, evE_fnv, evE_bin, evE_neg, evE_cmp, evE_cmp2, evE_isN, evE_notN, evE_and, evE_or, evE_not, evE_ife, evE_tup, evE_lst, evE_dicE, evE_call, evE_callv, evE_blt, evE_isi, evE_meth, evE_ix, evE_sl, evE_rev, evE_dpop, evE_dlen, evE_lrev, evT_not, evT_and, evT_or, evT_cmp, evT_cmp2, evT_isN, evT_notN, evT_call, evT_blt, evT_isi, evT_var, evT_ix, evL_nil, evL_cons, evL_scons, evLp_nil, evLp_cons, evO_nil, evI_rng, evI_enum, evI_zip, evI_items, evI_vals, evB_done, evB_ex, evB_asg, evB_own, evB_par, evB_par3, evB_aug, evB_app, evB_ext, evB_setI, evB_augI, evB_popS, evB_popD, evB_frz, evB_ifs, evB_brk, evB_cnt, evB_ret, evB_ret0, evB_dead, evO_one, evI_one, evTs_nil, evTs_one, evB_rse0, evAnd_1, evOr_1, evTand_1, evTor_1, evAnd_2, evOr_2, evTand_2, evTor_2, rb_ok, rb_exc, rb_bad, oo_some, Cr.get, varP, varS, asgP, setSl, grd, noX, -List.map_map, -List.map_append, iterD, hz]) fun d hd => ?_
    obtain ⟨c, hc, rfl⟩ := List.mem_map.mp hd
    unfold lcB
    simp [evE_var, evE_non, evE_bl, evE_int, evE_str, evE_glo, evE_fnv, evE_bin, evE_neg, evE_cmp, evE_cmp2, evE_isN, evE_notN, evE_and, evE_or, evE_not, evE_ife, evE_tup, evE_lst, evE_dicE, evE_call, evE_callv, evE_blt, evE_isi, evE_meth, evE_ix, evE_sl, evE_rev, evE_dpop, evE_dlen, evE_lrev, evT_not, evT_and, evT_or, evT_cmp, evT_cmp2, evT_isN, evT_notN, evT_call, evT_blt, evT_isi, evT_var, evT_ix, evL_nil, evL_cons, evL_scons, evLp_nil, evLp_cons, evO_nil, evI_rng, evI_enum, evI_zip, evI_items, evI_vals, evB_done, evB_ex, evB_asg, evB_own, evB_par, evB_par3, evB_aug, evB_app, evB_ext, evB_setI, evB_augI, evB_popS, evB_popD, evB_frz, evB_ifs, evB_brk, evB_cnt, evB_ret, evB_ret0, evB_dead, evO_one, evI_one, evTs_nil, evTs_one, evB_rse0, evAnd_1, evOr_1, evTand_1, evTor_1, evAnd_2, evOr_2, evTand_2, evTor_2, rb_ok, rb_exc, rb_bad, oo_some, Cr.get, varP, varS, asgP, setSl, grd, noX, -List.map_map, -List.map_append, wipeE, slots, c_SIGNS, cmpD, inD]
    rcases h.2 c hc with rfl | rfl <;> decide +kernel
  have hz2 : szOk w = true := sz88 (by omega)
  refine call_ret (by simp) ?_
  unfold b_is_row
  simp only [List.map_cons, List.map_nil, List.length_cons, List.length_nil, List.replicate, List.cons_append, List.nil_append, Nat.reduceAdd, Nat.reduceSub]
  simp [evE_var, evE_non, evE_bl, evE_int, evE_str, evE_glo, evE_fnv, evE_bin, evE_neg, evE_cmp, evE_cmp2, evE_isN, evE_notN, evE_and, evE_or, evE_not, evE_ife, evE_tup, evE_lst, evE_dicE, evE_call, evE_callv, evE_blt, evE_isi, evE_meth, evE_ix, evE_sl, evE_rev, evE_dpop, evE_dlen, evE_lrev, evT_not, evT_and, evT_or, evT_cmp, evT_cmp2, evT_isN, evT_notN, evT_call, evT_blt, evT_isi, evT_var, evT_ix, evL_nil, evL_cons, evL_scons, evLp_nil, evLp_cons, evO_nil, evI_rng, evI_enum, evI_zip, evI_items, evI_vals, evB_done, evB_ex, evB_asg, evB_own, evB_par, evB_par3, evB_aug, evB_app, evB_ext, evB_setI, evB_augI, evB_popS, evB_popD, evB_frz, evB_ifs, evB_brk, evB_cnt, evB_ret, evB_ret0, evB_dead, evO_one, evI_one, evTs_nil, evTs_one, evB_rse0, evAnd_1, evOr_1, evTand_1, evTor_1, evAnd_2, evOr_2, evTand_2, evTor_2, rb_ok, rb_exc, rb_bad, oo_some, Cr.get, varP, varS, asgP, setSl, grd, noX, -List.map_map, -List.map_append, isi_str, bl_len_str, hz2, h.1, cm_eq, eqD_int]
  rw [hlc, Res.bind_ok, Res.bind_ok, bl_all_t (all_map_t _)]
  rfl
theorem tup0 {A : List Str} (h : A ≠ []) : ∃ a, L2.atI (A.map D.str) 0 = some (.str a) ∧ a ∈ A := by
  cases A with
  | nil => exact absurd rfl h
  | cons a A => exact ⟨a, atI_zero _ _, List.mem_cons_self⟩
theorem is_roll_ok (j : Nat) {w : Nat} {A : List Str} (h : Roll w A) (dr : List Int) : callD (pr.at (j + 1)) 2 b_is_roll [.tup (A.map .str)] dr = .ok (.bl true) dr := by
  obtain ⟨a, ha, hm⟩ := tup0 h.ne
  have hr := h.rows a hm
  have w1 := h.w1
  have w2 := h.w2
  have hz2 : szOk w = true := sz88 (by omega)
  have hn : 1 ≤ A.length := List.length_pos_iff.mpr h.ne
  have hl := h.len
  have hn2 : (1 : Int) ≤ (A.length : Int) := by omega
  have hl2 : (A.length : Int) ≤ 2000 := by omega
  have hw1 : (1 : Int) ≤ (w : Int) := by omega
  have hw2 : (w : Int) ≤ 88 := by omega
  have hlc : evE (pr.at (j + 1)) (.lc (.nm 1) (.cons (.var 0) .nil) .nil (.call "is_row" (.cons (.var 1) (.cons (.blt .len (.cons (.ix (.var 0) (.int 0)) .nil)) .nil)))) true [.val (.tup (A.map .str)), .no] dr = .ok (.lst ((A.map D.str).map fun _ => .bl true)) dr := by
    refine ev_lcm _ (by simp [evE_var, evE_non, evE_bl, evE_int, evE_str, evE_glo, evE_fnv, evE_bin, evE_neg, evE_cmp, evE_cmp2, evE_isN, evE_notN, evE_and, evE_or, evE_not, evE_ife, evE_tup, evE_lst, evE_dicE, evE_call, evE_callv, evE_blt, evE_isi, evE_meth, evE_ix, evE_sl, evE_rev, evE_dpop, evE_dlen, evE_lrev, evT_not, evT_and, evT_or, evT_cmp, evT_cmp2, evT_isN, evT_notN, evT_call, evT_blt, evT_isi, evT_var, evT_ix, evL_nil, evL_cons, evL_scons, evLp_nil, evLp_cons, evO_nil, evI_rng, evI_enum, evI_zip, evI_items, evI_vals, evB_done, evB_ex, evB_asg, evB_own, evB_par, evB_par3, evB_aug, evB_app, evB_ext, evB_setI, evB_augI, evB_popS, evB_popD, evB_frz, evB_ifs, evB_brk, evB_cnt, evB_ret, evB_ret0, evB_dead, evO_one, evI_one, evTs_nil, evTs_one, evB_rse0, evAnd_1, evOr_1, evTand_1, evTor_1, evAnd_2, evOr_2, evTand_2, evTor_2, rb_ok, rb_exc, rb_bad, oo_some, Cr.get, varP, varS, asgP, setSl, grd, noX, -List.map_map, -List.map_append, it_tup]) fun d hd => ?_
    obtain ⟨s, hs, rfl⟩ := List.mem_map.mp hd
    unfold lcB
    simp [evE_var, evE_non, evE_bl, evE_int, evE_str, evE_glo, evE_fnv, evE_bin, evE_neg, evE_cmp, evE_cmp2, evE_isN, evE_notN, evE_and, evE_or, evE_not, evE_ife, evE_tup, evE_lst, evE_dicE, evE_call, evE_callv, evE_blt, evE_isi, evE_meth, evE_ix, evE_sl, evE_rev, evE_dpop, evE_dlen, evE_lrev, evT_not, evT_and, evT_or, evT_cmp, evT_cmp2, evT_isN, evT_notN, evT_call, evT_blt, evT_isi, evT_var, evT_ix, evL_nil, evL_cons, evL_scons, evLp_nil, evLp_cons, evO_nil, evI_rng, evI_enum, evI_zip, evI_items, evI_vals, evB_done, evB_ex, evB_asg, evB_own, evB_par, evB_par3, evB_aug, evB_app, evB_ext, evB_setI, evB_augI, evB_popS, evB_popD, evB_frz, evB_ifs, evB_brk, evB_cnt, evB_ret, evB_ret0, evB_dead, evO_one, evI_one, evTs_nil, evTs_one, evB_rse0, evAnd_1, evOr_1, evTand_1, evTor_1, evAnd_2, evOr_2, evTand_2, evTor_2, rb_ok, rb_exc, rb_bad, oo_some, Cr.get, varP, varS, asgP, setSl, grd, noX, -List.map_map, -List.map_append, wipeE, slots, ix_tup, ha, bl_len_str, hr.1, hz2, f_is_row, is_row_ok j w2 (h.rows s hs)]
  refine call_ret (by simp) ?_
  unfold b_is_roll
  simp [evE_var, evE_non, evE_bl, evE_int, evE_str, evE_glo, evE_fnv, evE_bin, evE_neg, evE_cmp, evE_cmp2, evE_isN, evE_notN, evE_and, evE_or, evE_not, evE_ife, evE_tup, evE_lst, evE_dicE, evE_call, evE_callv, evE_blt, evE_isi, evE_meth, evE_ix, evE_sl, evE_rev, evE_dpop, evE_dlen, evE_lrev, evT_not, evT_and, evT_or, evT_cmp, evT_cmp2, evT_isN, evT_notN, evT_call, evT_blt, evT_isi, evT_var, evT_ix, evL_nil, evL_cons, evL_scons, evLp_nil, evLp_cons, evO_nil, evI_rng, evI_enum, evI_zip, evI_items, evI_vals, evB_done, evB_ex, evB_asg, evB_own, evB_par, evB_par3, evB_aug, evB_app, evB_ext, evB_setI, evB_augI, evB_popS, evB_popD, evB_frz, evB_ifs, evB_brk, evB_cnt, evB_ret, evB_ret0, evB_dead, evO_one, evI_one, evTs_nil, evTs_one, evB_rse0, evAnd_1, evOr_1, evTand_1, evTor_1, evAnd_2, evOr_2, evTand_2, evTor_2, rb_ok, rb_exc, rb_bad, oo_some, Cr.get, varP, varS, asgP, setSl, grd, noX, -List.map_map, -List.map_append, isi_tup, bl_len_tup, cm_le, c_MOST_ROWS, c_WIDEST, ix_tup, ha, isi_str, bl_len_str, hr.1, hz2, hn2, hl2, hw1, hw2]
  rw [hlc, Res.bind_ok, Res.bind_ok, bl_all_t (all_map_t _)]
  rfl
theorem check_roll_ok (j : Nat) {w : Nat} {A : List Str} (h : Roll w A) (dr : List Int) : callD (pr.at (j + 2)) 1 b_check_roll [.tup (A.map .str)] dr = .ok .non dr := by
  unfold callD b_check_roll
  simp [evE_var, evE_non, evE_bl, evE_int, evE_str, evE_glo, evE_fnv, evE_bin, evE_neg, evE_cmp, evE_cmp2, evE_isN, evE_notN, evE_and, evE_or, evE_not, evE_ife, evE_tup, evE_lst, evE_dicE, evE_call, evE_callv, evE_blt, evE_isi, evE_meth, evE_ix, evE_sl, evE_rev, evE_dpop, evE_dlen, evE_lrev, evT_not, evT_and, evT_or, evT_cmp, evT_cmp2, evT_isN, evT_notN, evT_call, evT_blt, evT_isi, evT_var, evT_ix, evL_nil, evL_cons, evL_scons, evLp_nil, evLp_cons, evO_nil, evI_rng, evI_enum, evI_zip, evI_items, evI_vals, evB_done, evB_ex, evB_asg, evB_own, evB_par, evB_par3, evB_aug, evB_app, evB_ext, evB_setI, evB_augI, evB_popS, evB_popD, evB_frz, evB_ifs, evB_brk, evB_cnt, evB_ret, evB_ret0, evB_dead, evO_one, evI_one, evTs_nil, evTs_one, evB_rse0, evAnd_1, evOr_1, evTand_1, evTor_1, evAnd_2, evOr_2, evTand_2, evTor_2, rb_ok, rb_exc, rb_bad, oo_some, Cr.get, varP, varS, asgP, setSl, grd, noX, -List.map_map, -List.map_append, f_is_roll, f_check, is_roll_ok j h, check_t]
/-- a row backwards -/
def rv (s : Str) : Str := ⟨s.cps.toList.reverse.toArray⟩
theorem over_ok (j : Nat) {w : Nat} {A : List Str} (h : Roll w A) (dr : List Int) : callD (pr.at j) 2 b_over [.tup (A.map .str)] dr = .ok (.tup ((A.map rv).map .str)) dr := by
  have w2 := h.w2
  have hlc : evE (pr.at j) (.lc (.nm 1) (.cons (.var 0) .nil) .nil (.rev (.var 1))) true [.val (.tup (A.map .str)), .no] dr = .ok (.lst ((A.map D.str).map fun d => match d with
      | .str s => .str (rv s)
      | d => d)) dr := by
    refine ev_lcm _ (by simp [evE_var, evE_non, evE_bl, evE_int, evE_str, evE_glo, evE_fnv, evE_bin, evE_neg, evE_cmp, evE_cmp2, evE_isN, evE_notN, evE_and, evE_or, evE_not, evE_ife, evE_tup, evE_lst, evE_dicE, evE_call, evE_callv, evE_blt, evE_isi, evE_meth, evE_ix, evE_sl, evE_rev, evE_dpop, evE_dlen, evE_lrev, evT_not, evT_and, evT_or, evT_cmp, evT_cmp2, evT_isN, evT_notN, evT_call, evT_blt, evT_isi, evT_var, evT_ix, evL_nil, evL_cons, evL_scons, evLp_nil, evLp_cons, evO_nil, evI_rng, evI_enum, evI_zip, evI_items, evI_vals, evB_done, evB_ex, evB_asg, evB_own, evB_par, evB_par3, evB_aug, evB_app, evB_ext, evB_setI, evB_augI, evB_popS, evB_popD, evB_frz, evB_ifs, evB_brk, evB_cnt, evB_ret, evB_ret0, evB_dead, evO_one, evI_one, evTs_nil, evTs_one, evB_rse0, evAnd_1, evOr_1, evTand_1, evTor_1, evAnd_2, evOr_2, evTand_2, evTor_2, rb_ok, rb_exc, rb_bad, oo_some, Cr.get, varP, varS, asgP, setSl, grd, noX, -List.map_map, -List.map_append, it_tup]) fun d hd => ?_
    obtain ⟨s, hs, rfl⟩ := List.mem_map.mp hd
    have hz : szOk s.length = true := sz88 (by have := (h.rows s hs).1; omega)
    unfold lcB
    simp [evE_var, evE_non, evE_bl, evE_int, evE_str, evE_glo, evE_fnv, evE_bin, evE_neg, evE_cmp, evE_cmp2, evE_isN, evE_notN, evE_and, evE_or, evE_not, evE_ife, evE_tup, evE_lst, evE_dicE, evE_call, evE_callv, evE_blt, evE_isi, evE_meth, evE_ix, evE_sl, evE_rev, evE_dpop, evE_dlen, evE_lrev, evT_not, evT_and, evT_or, evT_cmp, evT_cmp2, evT_isN, evT_notN, evT_call, evT_blt, evT_isi, evT_var, evT_ix, evL_nil, evL_cons, evL_scons, evLp_nil, evLp_cons, evO_nil, evI_rng, evI_enum, evI_zip, evI_items, evI_vals, evB_done, evB_ex, evB_asg, evB_own, evB_par, evB_par3, evB_aug, evB_app, evB_ext, evB_setI, evB_augI, evB_popS, evB_popD, evB_frz, evB_ifs, evB_brk, evB_cnt, evB_ret, evB_ret0, evB_dead, evO_one, evI_one, evTs_nil, evTs_one, evB_rse0, evAnd_1, evOr_1, evTand_1, evTor_1, evAnd_2, evOr_2, evTand_2, evTor_2, rb_ok, rb_exc, rb_bad, oo_some, Cr.get, varP, varS, asgP, setSl, grd, noX, -List.map_map, -List.map_append, wipeE, slots, rv_str hz, rv]
  refine call_ret (by simp) ?_
  unfold b_over
  simp [evE_var, evE_non, evE_bl, evE_int, evE_str, evE_glo, evE_fnv, evE_bin, evE_neg, evE_cmp, evE_cmp2, evE_isN, evE_notN, evE_and, evE_or, evE_not, evE_ife, evE_tup, evE_lst, evE_dicE, evE_call, evE_callv, evE_blt, evE_isi, evE_meth, evE_ix, evE_sl, evE_rev, evE_dpop, evE_dlen, evE_lrev, evT_not, evT_and, evT_or, evT_cmp, evT_cmp2, evT_isN, evT_notN, evT_call, evT_blt, evT_isi, evT_var, evT_ix, evL_nil, evL_cons, evL_scons, evLp_nil, evLp_cons, evO_nil, evI_rng, evI_enum, evI_zip, evI_items, evI_vals, evB_done, evB_ex, evB_asg, evB_own, evB_par, evB_par3, evB_aug, evB_app, evB_ext, evB_setI, evB_augI, evB_popS, evB_popD, evB_frz, evB_ifs, evB_brk, evB_cnt, evB_ret, evB_ret0, evB_dead, evO_one, evI_one, evTs_nil, evTs_one, evB_rse0, evAnd_1, evOr_1, evTand_1, evTor_1, evAnd_2, evOr_2, evTand_2, evTor_2, rb_ok, rb_exc, rb_bad, oo_some, Cr.get, varP, varS, asgP, setSl, grd, noX, -List.map_map, -List.map_append]
  rw [hlc, Res.bind_ok, Res.bind_ok, bl_tup_lst, List.map_map, List.map_map]
  rfl
/-- the whole round -/
def whole (A : List Str) (tw : Bool) : List Str := if tw then A ++ A.map rv else A
theorem round_ok (j : Nat) {w : Nat} {A : List Str} (h : Roll w A) (tw : Bool) (dr : List Int) : callD (pr.at (j + 1)) 2 b_round_of [.tup (A.map .str), .bl tw] dr = .ok (.tup ((whole A tw).map .str)) dr := by
  have hl := h.len
  unfold callD b_round_of
  cases tw
  · simp [evE_var, evE_non, evE_bl, evE_int, evE_str, evE_glo, evE_fnv, evE_bin, evE_neg, evE_cmp, evE_cmp2, evE_isN, evE_notN, evE_and, evE_or, evE_not, evE_ife, evE_tup, evE_lst, evE_dicE, evE_call, evE_callv, evE_blt, evE_isi, evE_meth, evE_ix, evE_sl, evE_rev, evE_dpop, evE_dlen, evE_lrev, evT_not, evT_and, evT_or, evT_cmp, evT_cmp2, evT_isN, evT_notN, evT_call, evT_blt, evT_isi, evT_var, evT_ix, evL_nil, evL_cons, evL_scons, evLp_nil, evLp_cons, evO_nil, evI_rng, evI_enum, evI_zip, evI_items, evI_vals, evB_done, evB_ex, evB_asg, evB_own, evB_par, evB_par3, evB_aug, evB_app, evB_ext, evB_setI, evB_augI, evB_popS, evB_popD, evB_frz, evB_ifs, evB_brk, evB_cnt, evB_ret, evB_ret0, evB_dead, evO_one, evI_one, evTs_nil, evTs_one, evB_rse0, evAnd_1, evOr_1, evTand_1, evTor_1, evAnd_2, evOr_2, evTand_2, evTor_2, rb_ok, rb_exc, rb_bad, oo_some, Cr.get, varP, varS, asgP, setSl, grd, noX, -List.map_map, -List.map_append, D.tru, whole]
  · simp [evE_var, evE_non, evE_bl, evE_int, evE_str, evE_glo, evE_fnv, evE_bin, evE_neg, evE_cmp, evE_cmp2, evE_isN, evE_notN, evE_and, evE_or, evE_not, evE_ife, evE_tup, evE_lst, evE_dicE, evE_call, evE_callv, evE_blt, evE_isi, evE_meth, evE_ix, evE_sl, evE_rev, evE_dpop, evE_dlen, evE_lrev, evT_not, evT_and, evT_or, evT_cmp, evT_cmp2, evT_isN, evT_notN, evT_call, evT_blt, evT_isi, evT_var, evT_ix, evL_nil, evL_cons, evL_scons, evLp_nil, evLp_cons, evO_nil, evI_rng, evI_enum, evI_zip, evI_items, evI_vals, evB_done, evB_ex, evB_asg, evB_own, evB_par, evB_par3, evB_aug, evB_app, evB_ext, evB_setI, evB_augI, evB_popS, evB_popD, evB_frz, evB_ifs, evB_brk, evB_cnt, evB_ret, evB_ret0, evB_dead, evO_one, evI_one, evTs_nil, evTs_one, evB_rse0, evAnd_1, evOr_1, evTand_1, evTor_1, evAnd_2, evOr_2, evTand_2, evTor_2, rb_ok, rb_exc, rb_bad, oo_some, Cr.get, varP, varS, asgP, setSl, grd, noX, -List.map_map, -List.map_append, D.tru, whole, f_over, over_ok j h, bi_add_tup (xs := A.map D.str) (ys := (A.map rv).map D.str) (sz_le (m := 4000) (by omega) (by simp; omega))]
    rw [List.map_append]
theorem whole_len (A : List Str) (tw : Bool) : (whole A tw).length = A.length * (if tw then 2 else 1) := by
  cases tw <;> simp [whole]
  omega
theorem rv_row {w : Nat} {s : Str} (h : Row w s) : Row w (rv s) := by
  refine ⟨?_, fun c hc => h.2 c (by simpa [rv] using hc)⟩
  rw [← h.1]
  show (s.cps.toList.reverse.toArray).size = s.cps.size
  simp
theorem whole_rows {w : Nat} {A : List Str} (h : Roll w A) (tw : Bool) : ∀ s ∈ whole A tw, Row w s := by
  intro s hs
  cases tw with
  | false => exact h.rows s hs
  | true =>
    rcases List.mem_append.mp hs with q | q
    · exact h.rows s q
    · obtain ⟨t, ht, rfl⟩ := List.mem_map.mp q
      exact rv_row (h.rows t ht)
/-- the strip's rows -/
def strip (W : List Str) (m : Nat) : List Str := (List.range m).map fun t => W.getD (t % W.length) default
def stripF (W : List Str) : D → D
  | .int i => .str (W.getD (i.toNat % W.length) default)
  | d => d
theorem strip_rows_ok (j : Nat) {w : Nat} {A : List Str} (h : Roll w A) (tw : Bool) {m : Nat} (hm : m ≤ 5000) (dr : List Int) :
    callD (pr.at (j + 3)) 5 b_strip_rows [.tup (A.map .str), .bl tw, .int m] dr = .ok (.tup ((strip (whole A tw) m).map .str)) dr := by
  have hl := h.len
  have hn : 1 ≤ A.length := List.length_pos_iff.mpr h.ne
  have hwl := whole_len A tw
  have hpos : 0 < (whole A tw).length := by
    rw [hwl]
    cases tw <;> simp <;> omega
  have hm2 : (m : Int) ≤ 5000 := by omega
  have hlc : ∀ pk x, evE (pr.at (j + 3)) (.lc (.nm 4) (.rng (.cons (.var 2) .nil)) .nil (.ix (.var 3) (.bin .mod (.var 4) (.blt .len (.cons (.var 3) .nil))))) pk [.val (.tup (A.map .str)), .val (.bl tw), .val (.int m), .val (.tup ((whole A tw).map .str)), x] dr =
      .ok (.lst (((List.range m).map fun (k : Nat) => D.int (k : Int)).map (stripF (whole A tw)))) dr := fun pk x => by
    refine ev_lcm _ (ev_rng1 (m := m) (by omega) rfl) fun d hd => ?_
    obtain ⟨k, hk, rfl⟩ := List.mem_map.mp hd
    have hlt : k % (whole A tw).length < (whole A tw).length := Nat.mod_lt _ hpos
    have e1 : ((k : Int) % ((whole A tw).length : Int)) = ((k % (whole A tw).length : Nat) : Int) := by omega
    have e2 : L2.atI ((whole A tw).map D.str) ((k : Int) % ((whole A tw).length : Int)) = some (.str ((whole A tw).getD (k % (whole A tw).length) default)) := by
      rw [e1, atI_nat _ _ (by rw [List.length_map]; exact hlt), List.getElem_map, List.getD_eq_getElem?_getD, List.getElem?_eq_getElem hlt]
      rfl
    have e3 : (0 : Int) < ((whole A tw).length : Int) := by omega
    unfold lcB
    simp [evE_var, evE_non, evE_bl, evE_int, evE_str, evE_glo, evE_fnv, evE_bin, evE_neg, evE_cmp, evE_cmp2, evE_isN, evE_notN, evE_and, evE_or, evE_not, evE_ife, evE_tup, evE_lst, evE_dicE, evE_call, evE_callv, evE_blt, evE_isi, evE_meth, evE_ix, evE_sl, evE_rev, evE_dpop, evE_dlen, evE_lrev, evT_not, evT_and, evT_or, evT_cmp, evT_cmp2, evT_isN, evT_notN, evT_call, evT_blt, evT_isi, evT_var, evT_ix, evL_nil, evL_cons, evL_scons, evLp_nil, evLp_cons, evO_nil, evI_rng, evI_enum, evI_zip, evI_items, evI_vals, evB_done, evB_ex, evB_asg, evB_own, evB_par, evB_par3, evB_aug, evB_app, evB_ext, evB_setI, evB_augI, evB_popS, evB_popD, evB_frz, evB_ifs, evB_brk, evB_cnt, evB_ret, evB_ret0, evB_dead, evO_one, evI_one, evTs_nil, evTs_one, evB_rse0, evAnd_1, evOr_1, evTand_1, evTor_1, evAnd_2, evOr_2, evTand_2, evTor_2, rb_ok, rb_exc, rb_bad, oo_some, Cr.get, varP, varS, asgP, setSl, grd, noX, -List.map_map, -List.map_append, wipeE, slots, bl_len_tup, bi_mod e3, ix_tup, e2, stripF]
  refine call_ret (by simp) ?_
  unfold b_strip_rows
  have hw := is_within_int (j + 1) m 0 5000 dr
  rw [decide_eq_true (show (0 : Int) ≤ (m : Int) by omega), decide_eq_true hm2] at hw
  simp only [evE_var, evE_non, evE_bl, evE_int, evE_str, evE_glo, evE_fnv, evE_bin, evE_neg, evE_cmp, evE_cmp2, evE_isN, evE_notN, evE_and, evE_or, evE_not, evE_ife, evE_tup, evE_lst, evE_dicE, evE_call, evE_callv, evE_blt, evE_isi, evE_meth, evE_ix, evE_sl, evE_rev, evE_dpop, evE_dlen, evE_lrev, evT_not, evT_and, evT_or, evT_cmp, evT_cmp2, evT_isN, evT_notN, evT_call, evT_blt, evT_isi, evT_var, evT_ix, evL_nil, evL_cons, evL_scons, evLp_nil, evLp_cons, evO_nil, evI_rng, evI_enum, evI_zip, evI_items, evI_vals, evB_done, evB_ex, evB_asg, evB_own, evB_par, evB_par3, evB_aug, evB_app, evB_ext, evB_setI, evB_augI, evB_popS, evB_popD, evB_frz, evB_ifs, evB_brk, evB_cnt, evB_ret, evB_ret0, evB_dead, evO_one, evI_one, evTs_nil, evTs_one, evB_rse0, evAnd_1, evOr_1, evTand_1, evTor_1, evAnd_2, evOr_2, evTand_2, evTor_2, rb_ok, rb_exc, rb_bad, oo_some, get_0, get_1, get_2, get_3, get_4, get_5, get_6, get_7, get_8, get_9, get_10, get_11, get_12, get_13, get_14, get_15, get_16, get_17, varP_v, varP_o, varS_v, if_true, if_false, Bool.false_eq_true, asgP_0, asgP_1, asgP_2, asgP_3, asgP_4, asgP_5, asgP_6, asgP_7, asgP_8, asgP_9, asgP_10, asgP_11, asgP_12, asgP_13, asgP_14, asgP_15, asgP_16, asgP_17, List.map_cons, List.map_nil, List.length_cons, List.length_nil, Nat.reduceAdd, Nat.reduceSub, List.replicate_succ, List.replicate_zero, List.cons_append, List.nil_append, Option.map_some, f_check_roll, check_roll_ok j h, isi_bl, f_is_within, c_MOST_PLAYED, f_check, hw, check_t, f_round_of, round_ok (j + 1) h, show (Ty.bool == Ty.bool) = true from rfl, Bool.true_or, Bool.true_and]
  rw [hlc, Res.bind_ok, Res.bind_ok, bl_tup_lst]
  have e9 : ((List.range m).map fun (k : Nat) => D.int (k : Int)).map (stripF (whole A tw)) = (strip (whole A tw) m).map D.str := by
    unfold strip
    rw [List.map_map, List.map_map]
    refine List.map_congr_left fun k _ => ?_
    rfl
  rw [e9]
  rfl
/-! ### the period -/
def fitL (n : Nat) : List Nat := ((List.range n).map (· + 1)).filter fun p => n % p == 0
def rot (W : List Str) (p : Nat) : Bool := decide (W.drop p ++ W.take p = W)
def period (W : List Str) : Nat := ((fitL W.length).filter (rot W)).headD 0
def ofI (f : Nat → Bool) : D → Option D
  | .int i => if f i.toNat then some (.int i) else none
  | _ => none
theorem ofI_map (f : Nat → Bool) (l : List Nat) : (l.map fun (p : Nat) => D.int (p : Int)).filterMap (ofI f) = (l.filter f).map fun (p : Nat) => D.int (p : Int) := by
  induction l with
  | nil => rfl
  | cons p l ih =>
    have e : ofI f (D.int (p : Int)) = if f p then some (.int (p : Int)) else none := by
      show (if f ((p : Int).toNat) then _ else _) = _
      rw [Int.toNat_natCast]
    rw [List.map_cons, List.filterMap_cons, e]
    cases q : f p
    · rw [if_neg Bool.false_ne_true, List.filter_cons_of_neg (by rw [q]; exact Bool.false_ne_true)]
      exact ih
    · rw [if_pos rfl, List.filter_cons_of_pos q, List.map_cons]
      exact congrArg _ ih
theorem range1 (n : Nat) : ((List.range n).map fun (k : Nat) => D.int ((k + 1 : Nat) : Int)) = ((List.range n).map (· + 1)).map fun (p : Nat) => D.int (p : Int) := by
  rw [List.map_map]
  rfl
theorem strOk_row {w : Nat} {s : Str} (h : Row w s) : PyData.strOk s = true := by
  unfold PyData.strOk
  rw [← Array.all_toList, List.all_eq_true]
  intro c hc
  rcases h.2 c hc with rfl | rfl <;> decide
theorem head_ne {α : Type} {l : List α} (d : α) (h : l ≠ []) (f : α → D) : L2.atI (l.map f) 0 = some (f (l.headD d)) := by
  cases l with
  | nil => exact absurd rfl h
  | cons x l => exact atI_zero _ _
theorem fit_self {n : Nat} (h : 0 < n) : n ∈ fitL n := by
  unfold fitL
  rw [List.mem_filter]
  refine ⟨List.mem_map.mpr ⟨n - 1, List.mem_range.mpr (by omega), by omega⟩, ?_⟩
  simp
theorem rot_self (W : List Str) : rot W W.length = true := by
  unfold rot
  simp
theorem per_ne {W : List Str} (h : 0 < W.length) : (fitL W.length).filter (rot W) ≠ [] := by
  have : W.length ∈ (fitL W.length).filter (rot W) := List.mem_filter.mpr ⟨fit_self h, rot_self W⟩
  intro e
  rw [e] at this
  cases this
theorem whole_pos {w : Nat} {A : List Str} (h : Roll w A) (tw : Bool) : 0 < (whole A tw).length ∧ (whole A tw).length ≤ 4000 := by
  have hl := h.len
  have hn : 1 ≤ A.length := List.length_pos_iff.mpr h.ne
  rw [whole_len]
  cases tw <;> simp <;> omega
theorem strip_period_ok (j : Nat) {w : Nat} {A : List Str} (h : Roll w A) (tw : Bool) (dr : List Int) :
    callD (pr.at (j + 3)) 5 b_strip_period [.tup (A.map .str), .bl tw] dr = .ok (.int (period (whole A tw))) dr := by
  obtain ⟨hpos, hmax⟩ := whole_pos h tw
  have hrow := whole_rows h tw
  generalize hW : whole A tw = W at *
  have hn : ∀ pk x y, evE (pr.at (j + 3)) (.lc (.nm 4) (.rng (.cons (.int 1) (.cons (.bin .add (.blt .len (.cons (.var 2) .nil)) (.int 1)) .nil))) (.cons (.cmp .eq (.bin .mod (.blt .len (.cons (.var 2) .nil)) (.var 4)) (.int 0)) .nil) (.var 4)) pk [.val (.tup (A.map .str)), .val (.bl tw), .val (.tup (W.map .str)), x, y] dr =
      .ok (.lst ((fitL W.length).map fun (p : Nat) => D.int (p : Int))) dr := fun pk x y => by
    rw [ev_lc (ofI fun p => W.length % p == 0) (ev_rng2 (m := W.length) (by omega) (evE_int _ _ _ _ _) (by simp only [evE_var, evE_non, evE_bl, evE_int, evE_str, evE_glo, evE_fnv, evE_bin, evE_neg, evE_cmp, evE_cmp2, evE_isN, evE_notN, evE_and, evE_or, evE_not, evE_ife, evE_tup, evE_lst, evE_dicE, evE_call, evE_callv, evE_blt, evE_isi, evE_meth, evE_ix, evE_sl, evE_rev, evE_dpop, evE_dlen, evE_lrev, evT_not, evT_and, evT_or, evT_cmp, evT_cmp2, evT_isN, evT_notN, evT_call, evT_blt, evT_isi, evT_var, evT_ix, evL_nil, evL_cons, evL_scons, evLp_nil, evLp_cons, evO_nil, evI_rng, evI_enum, evI_zip, evI_items, evI_vals, evB_done, evB_ex, evB_asg, evB_own, evB_par, evB_par3, evB_aug, evB_app, evB_ext, evB_setI, evB_augI, evB_popS, evB_popD, evB_frz, evB_ifs, evB_brk, evB_cnt, evB_ret, evB_ret0, evB_dead, evO_one, evI_one, evTs_nil, evTs_one, evB_rse0, evAnd_1, evOr_1, evTand_1, evTor_1, evAnd_2, evOr_2, evTand_2, evTor_2, rb_ok, rb_exc, rb_bad, oo_some, get_0, get_1, get_2, get_3, get_4, get_5, get_6, get_7, get_8, get_9, get_10, get_11, get_12, get_13, get_14, get_15, get_16, get_17, varP_v, varP_o, varS_v, if_true, if_false, Bool.false_eq_true, asgP_0, asgP_1, asgP_2, asgP_3, asgP_4, asgP_5, asgP_6, asgP_7, asgP_8, asgP_9, asgP_10, asgP_11, asgP_12, asgP_13, asgP_14, asgP_15, asgP_16, asgP_17, List.map_cons, List.map_nil, List.length_cons, List.length_nil, Nat.reduceAdd, Nat.reduceSub, List.replicate_succ, List.replicate_zero, List.cons_append, List.nil_append, Option.map_some, bl_len_tup, List.length_map, bi_add])) fun d hd => ?_]
    · rw [range1, ofI_map]
      rfl
    · obtain ⟨k, hk, rfl⟩ := List.mem_map.mp hd
      have e3 : (0 : Int) < ((k + 1 : Nat) : Int) := by omega
      have e4 : ((W.length : Int) % ((k + 1 : Nat) : Int) == 0) = (W.length % (k + 1) == 0) := by
        have : (W.length : Int) % ((k + 1 : Nat) : Int) = ((W.length % (k + 1) : Nat) : Int) := by omega
        rw [this]
        cases q : W.length % (k + 1) <;> rfl
      unfold lcB
      simp only [evE_var, evE_non, evE_bl, evE_int, evE_str, evE_glo, evE_fnv, evE_bin, evE_neg, evE_cmp, evE_cmp2, evE_isN, evE_notN, evE_and, evE_or, evE_not, evE_ife, evE_tup, evE_lst, evE_dicE, evE_call, evE_callv, evE_blt, evE_isi, evE_meth, evE_ix, evE_sl, evE_rev, evE_dpop, evE_dlen, evE_lrev, evT_not, evT_and, evT_or, evT_cmp, evT_cmp2, evT_isN, evT_notN, evT_call, evT_blt, evT_isi, evT_var, evT_ix, evL_nil, evL_cons, evL_scons, evLp_nil, evLp_cons, evO_nil, evI_rng, evI_enum, evI_zip, evI_items, evI_vals, evB_done, evB_ex, evB_asg, evB_own, evB_par, evB_par3, evB_aug, evB_app, evB_ext, evB_setI, evB_augI, evB_popS, evB_popD, evB_frz, evB_ifs, evB_brk, evB_cnt, evB_ret, evB_ret0, evB_dead, evO_one, evI_one, evTs_nil, evTs_one, evB_rse0, evAnd_1, evOr_1, evTand_1, evTor_1, evAnd_2, evOr_2, evTand_2, evTor_2, rb_ok, rb_exc, rb_bad, oo_some, get_0, get_1, get_2, get_3, get_4, get_5, get_6, get_7, get_8, get_9, get_10, get_11, get_12, get_13, get_14, get_15, get_16, get_17, varP_v, varP_o, varS_v, if_true, if_false, Bool.false_eq_true, asgP_0, asgP_1, asgP_2, asgP_3, asgP_4, asgP_5, asgP_6, asgP_7, asgP_8, asgP_9, asgP_10, asgP_11, asgP_12, asgP_13, asgP_14, asgP_15, asgP_16, asgP_17, List.map_cons, List.map_nil, List.length_cons, List.length_nil, Nat.reduceAdd, Nat.reduceSub, List.replicate_succ, List.replicate_zero, List.cons_append, List.nil_append, Option.map_some, wipeE, slots, List.set_cons_zero, List.set_cons_succ, bl_len_tup, List.length_map, bi_mod e3, cm_eq, eqD_int, e4]
      show _ = Res.ok (if (W.length % (((k + 1 : Nat) : Int).toNat) == 0) = true then _ else _) dr
      rw [Int.toNat_natCast]
      cases (W.length % (k + 1) == 0) <;> rfl
  have hp : ∀ pk y, evE (pr.at (j + 3)) (.lc (.nm 4) (.cons (.var 3) .nil) (.cons (.cmp .eq (.bin .add (.sl (.var 2) (.cons (.var 4) .nil) .nil) (.sl (.var 2) .nil (.cons (.var 4) .nil))) (.var 2)) .nil) (.var 4)) pk [.val (.tup (A.map .str)), .val (.bl tw), .val (.tup (W.map .str)), .val (.lst ((fitL W.length).map fun (p : Nat) => D.int (p : Int))), y] dr =
      .ok (.lst (((fitL W.length).filter (rot W)).map fun (p : Nat) => D.int (p : Int))) dr := fun pk y => by
    rw [ev_lc (ofI (rot W)) (xs := (fitL W.length).map fun (p : Nat) => D.int (p : Int)) (by simp only [evE_var, evE_non, evE_bl, evE_int, evE_str, evE_glo, evE_fnv, evE_bin, evE_neg, evE_cmp, evE_cmp2, evE_isN, evE_notN, evE_and, evE_or, evE_not, evE_ife, evE_tup, evE_lst, evE_dicE, evE_call, evE_callv, evE_blt, evE_isi, evE_meth, evE_ix, evE_sl, evE_rev, evE_dpop, evE_dlen, evE_lrev, evT_not, evT_and, evT_or, evT_cmp, evT_cmp2, evT_isN, evT_notN, evT_call, evT_blt, evT_isi, evT_var, evT_ix, evL_nil, evL_cons, evL_scons, evLp_nil, evLp_cons, evO_nil, evI_rng, evI_enum, evI_zip, evI_items, evI_vals, evB_done, evB_ex, evB_asg, evB_own, evB_par, evB_par3, evB_aug, evB_app, evB_ext, evB_setI, evB_augI, evB_popS, evB_popD, evB_frz, evB_ifs, evB_brk, evB_cnt, evB_ret, evB_ret0, evB_dead, evO_one, evI_one, evTs_nil, evTs_one, evB_rse0, evAnd_1, evOr_1, evTand_1, evTor_1, evAnd_2, evOr_2, evTand_2, evTor_2, rb_ok, rb_exc, rb_bad, oo_some, get_0, get_1, get_2, get_3, get_4, get_5, get_6, get_7, get_8, get_9, get_10, get_11, get_12, get_13, get_14, get_15, get_16, get_17, varP_v, varP_o, varS_v, if_true, if_false, Bool.false_eq_true, asgP_0, asgP_1, asgP_2, asgP_3, asgP_4, asgP_5, asgP_6, asgP_7, asgP_8, asgP_9, asgP_10, asgP_11, asgP_12, asgP_13, asgP_14, asgP_15, asgP_16, asgP_17, List.map_cons, List.map_nil, List.length_cons, List.length_nil, Nat.reduceAdd, Nat.reduceSub, List.replicate_succ, List.replicate_zero, List.cons_append, List.nil_append, Option.map_some, evI_one, it_lst]) fun d hd => ?_]
    · rw [ofI_map]
    · obtain ⟨k, hk, rfl⟩ := List.mem_map.mp hd
      have s1 : slD (.tup (W.map D.str)) (some (k : Int)) none = some (.tup ((W.drop k).map D.str)) := by
        show some (D.tup (cut (W.map D.str) (some (k : Int)) none)) = _
        rw [cut_drop, List.map_drop]
      have s2 : slD (.tup (W.map D.str)) none (some (k : Int)) = some (.tup ((W.take k).map D.str)) := by
        show some (D.tup (cut (W.map D.str) none (some (k : Int)))) = _
        rw [cut_take, List.map_take]
      have s3 : binD .add (.tup ((W.drop k).map D.str)) (.tup ((W.take k).map D.str)) = some (.tup ((W.drop k ++ W.take k).map D.str)) := by
        rw [bi_add_tup (sz_le (m := 8000) (by omega) (by simp; omega)), List.map_append]
      have s4 : eqD (.tup ((W.drop k ++ W.take k).map D.str)) (.tup (W.map D.str)) = some (rot W k) := eqD_tup _ _ (fun a ha => by
        rcases List.mem_append.mp ha with q | q
        · exact strOk_row (hrow a (List.mem_of_mem_drop q))
        · exact strOk_row (hrow a (List.mem_of_mem_take q))) fun a ha => strOk_row (hrow a ha)
      unfold lcB
      simp only [evE_var, evE_non, evE_bl, evE_int, evE_str, evE_glo, evE_fnv, evE_bin, evE_neg, evE_cmp, evE_cmp2, evE_isN, evE_notN, evE_and, evE_or, evE_not, evE_ife, evE_tup, evE_lst, evE_dicE, evE_call, evE_callv, evE_blt, evE_isi, evE_meth, evE_ix, evE_sl, evE_rev, evE_dpop, evE_dlen, evE_lrev, evT_not, evT_and, evT_or, evT_cmp, evT_cmp2, evT_isN, evT_notN, evT_call, evT_blt, evT_isi, evT_var, evT_ix, evL_nil, evL_cons, evL_scons, evLp_nil, evLp_cons, evO_nil, evI_rng, evI_enum, evI_zip, evI_items, evI_vals, evB_done, evB_ex, evB_asg, evB_own, evB_par, evB_par3, evB_aug, evB_app, evB_ext, evB_setI, evB_augI, evB_popS, evB_popD, evB_frz, evB_ifs, evB_brk, evB_cnt, evB_ret, evB_ret0, evB_dead, evO_one, evI_one, evTs_nil, evTs_one, evB_rse0, evAnd_1, evOr_1, evTand_1, evTor_1, evAnd_2, evOr_2, evTand_2, evTor_2, rb_ok, rb_exc, rb_bad, oo_some, get_0, get_1, get_2, get_3, get_4, get_5, get_6, get_7, get_8, get_9, get_10, get_11, get_12, get_13, get_14, get_15, get_16, get_17, varP_v, varP_o, varS_v, if_true, if_false, Bool.false_eq_true, asgP_0, asgP_1, asgP_2, asgP_3, asgP_4, asgP_5, asgP_6, asgP_7, asgP_8, asgP_9, asgP_10, asgP_11, asgP_12, asgP_13, asgP_14, asgP_15, asgP_16, asgP_17, List.map_cons, List.map_nil, List.length_cons, List.length_nil, Nat.reduceAdd, Nat.reduceSub, List.replicate_succ, List.replicate_zero, List.cons_append, List.nil_append, Option.map_some, wipeE, slots, List.set_cons_zero, List.set_cons_succ, evO_one, evO_nil, s1, s2, s3, cm_eq, s4]
      show _ = Res.ok (if rot W ((k : Int).toNat) = true then _ else _) dr
      rw [Int.toNat_natCast]
      cases rot W k <;> rfl
  refine call_ret (by simp) ?_
  unfold b_strip_period
  have hro := round_ok (j + 1) h tw dr
  rw [hW] at hro
  simp only [evE_var, evE_non, evE_bl, evE_int, evE_str, evE_glo, evE_fnv, evE_bin, evE_neg, evE_cmp, evE_cmp2, evE_isN, evE_notN, evE_and, evE_or, evE_not, evE_ife, evE_tup, evE_lst, evE_dicE, evE_call, evE_callv, evE_blt, evE_isi, evE_meth, evE_ix, evE_sl, evE_rev, evE_dpop, evE_dlen, evE_lrev, evT_not, evT_and, evT_or, evT_cmp, evT_cmp2, evT_isN, evT_notN, evT_call, evT_blt, evT_isi, evT_var, evT_ix, evL_nil, evL_cons, evL_scons, evLp_nil, evLp_cons, evO_nil, evI_rng, evI_enum, evI_zip, evI_items, evI_vals, evB_done, evB_ex, evB_asg, evB_own, evB_par, evB_par3, evB_aug, evB_app, evB_ext, evB_setI, evB_augI, evB_popS, evB_popD, evB_frz, evB_ifs, evB_brk, evB_cnt, evB_ret, evB_ret0, evB_dead, evO_one, evI_one, evTs_nil, evTs_one, evB_rse0, evAnd_1, evOr_1, evTand_1, evTor_1, evAnd_2, evOr_2, evTand_2, evTor_2, rb_ok, rb_exc, rb_bad, oo_some, get_0, get_1, get_2, get_3, get_4, get_5, get_6, get_7, get_8, get_9, get_10, get_11, get_12, get_13, get_14, get_15, get_16, get_17, varP_v, varP_o, varS_v, if_true, if_false, Bool.false_eq_true, asgP_0, asgP_1, asgP_2, asgP_3, asgP_4, asgP_5, asgP_6, asgP_7, asgP_8, asgP_9, asgP_10, asgP_11, asgP_12, asgP_13, asgP_14, asgP_15, asgP_16, asgP_17, List.map_cons, List.map_nil, List.length_cons, List.length_nil, Nat.reduceAdd, Nat.reduceSub, List.replicate_succ, List.replicate_zero, List.cons_append, List.nil_append, Option.map_some, f_check_roll, check_roll_ok j h, isi_bl, f_check, check_t, f_round_of, hro, show (Ty.bool == Ty.bool) = true from rfl, Bool.true_or]
  rw [hn, rb_ok, hp, rb_ok, ix_lst, head_ne 0 (per_ne hpos) (fun (p : Nat) => D.int (p : Int))]
  rfl
/-! ### the law's own period -/
/-- the endless strip -/
def gS (W : List Str) (t : Nat) : Str := W.getD (t % W.length) default
def Per (W : List Str) (p : Nat) : Prop := ∀ i, gS W (i + p) = gS W i
theorem gS_mod (W : List Str) (i : Nat) : gS W (i % W.length) = gS W i := by
  unfold gS
  rw [Nat.mod_mod]
theorem gS_add (W : List Str) (i p : Nat) : gS W (i % W.length + p) = gS W (i + p) := by
  unfold gS
  rw [Nat.mod_add_mod]
theorem strip_get {W : List Str} {m i : Nat} (h : i < m) : (strip W m)[i]? = some (gS W i) := by
  unfold strip
  rw [List.getElem?_map, List.getElem?_range h]
  rfl
theorem strip_len (W : List Str) (m : Nat) : (strip W m).length = m := by
  unfold strip
  rw [List.length_map, List.length_range]
theorem strip_self {W : List Str} : strip W W.length = W := by
  refine List.ext_getElem? fun i => ?_
  by_cases h : i < W.length
  · rw [strip_get h, List.getElem?_eq_getElem h]
    unfold gS
    rw [Nat.mod_eq_of_lt h, List.getD_eq_getElem?_getD, List.getElem?_eq_getElem h]
    rfl
  · rw [List.getElem?_eq_none (by rw [strip_len]; omega), List.getElem?_eq_none (by omega)]
def sh (R : List Str) (p : Nat) : Bool := decide (R.drop p = R.take (R.length - p))
theorem sh_strip {W : List Str} {m p : Nat} (hW : 0 < W.length) (h : p + W.length ≤ m) : sh (strip W m) p = true ↔ Per W p := by
  unfold sh
  rw [decide_eq_true_iff, strip_len]
  constructor
  · intro e i
    have hi : i % W.length < W.length := Nat.mod_lt _ hW
    have e1 : ((strip W m).drop p)[i % W.length]? = ((strip W m).take (m - p))[i % W.length]? := by rw [e]
    rw [List.getElem?_drop, List.getElem?_take, if_pos (by omega), strip_get (by omega), strip_get (by omega)] at e1
    have e2 := Option.some.inj e1
    rw [Nat.add_comm, gS_add, gS_mod] at e2
    exact e2
  · intro hp
    refine List.ext_getElem? fun i => ?_
    rw [List.getElem?_drop, List.getElem?_take]
    by_cases hi : i < m - p
    · rw [if_pos hi, strip_get (by omega), strip_get (by omega), Nat.add_comm, hp]
    · rw [if_neg hi, List.getElem?_eq_none (by rw [strip_len]; omega)]
theorem rot_per {W : List Str} {p : Nat} (hW : 0 < W.length) (h : p ≤ W.length) : rot W p = true ↔ Per W p := by
  unfold rot
  rw [decide_eq_true_iff]
  have get : ∀ i, i < W.length → (W.drop p ++ W.take p)[i]? = some (gS W (i + p)) := fun i hi => by
    have wg : ∀ k, k < W.length → W[k]? = some (gS W k) := fun k hk => by
      have := strip_get (W := W) hk
      rw [strip_self] at this
      exact this
    by_cases h1 : i < W.length - p
    · rw [List.getElem?_append_left (by rw [List.length_drop]; omega), List.getElem?_drop, wg _ (by omega), Nat.add_comm]
    · rw [List.getElem?_append_right (by rw [List.length_drop]; omega), List.length_drop, List.getElem?_take, if_pos (by omega), wg _ (by omega), ← gS_mod W (i + p)]
      have : (i + p) % W.length = i - (W.length - p) := by
        rw [show i + p = (i - (W.length - p)) + W.length by omega, Nat.add_mod_right, Nat.mod_eq_of_lt (by omega)]
      rw [this]
  constructor
  · intro e i
    have hi : i % W.length < W.length := Nat.mod_lt _ hW
    have e1 := get _ hi
    rw [e] at e1
    have e2 : W[i % W.length]? = some (gS W (i % W.length)) := by
      have := strip_get (W := W) hi
      rw [strip_self] at this
      exact this
    rw [e2] at e1
    have e3 := Option.some.inj e1
    rw [gS_mod, gS_add] at e3
    exact e3.symm
  · intro hp
    refine List.ext_getElem? fun i => ?_
    by_cases hi : i < W.length
    · rw [get i hi, hp]
      have := strip_get (W := W) hi
      rw [strip_self] at this
      exact this.symm
    · rw [List.getElem?_eq_none (by simp; omega), List.getElem?_eq_none (by omega)]
theorem per_len (W : List Str) : Per W W.length := fun i => by
  unfold gS
  rw [Nat.add_mod_right]
theorem per_sub {W : List Str} {a b : Nat} (ha : Per W a) (hb : Per W b) (h : b ≤ a) : Per W (a - b) := fun i => by
  have := hb (i + (a - b))
  rw [show i + (a - b) + b = i + a by omega, ha] at this
  exact this.symm
theorem per_mod {W : List Str} {b : Nat} (hb : Per W b) (hb0 : 0 < b) : ∀ a, Per W a → Per W (a % b) := by
  intro a
  induction a using Nat.strongRecOn with
  | ind a ih =>
    intro ha
    by_cases h : b ≤ a
    · rw [Nat.mod_eq_sub_mod h]
      exact ih (a - b) (by omega) (per_sub ha hb h)
    · rw [Nat.mod_eq_of_lt (by omega)]
      exact ha
/-- the first of 1 .. n -/
theorem first_of {n p : Nat} {q : Nat → Bool} (h0 : 1 ≤ p) (h1 : p ≤ n) (hq : q p = true) (hl : ∀ k, 1 ≤ k → k < p → q k = false) : (((List.range n).map (· + 1)).filter q).headD 0 = p := by
  have e : List.range n = List.range (p - 1) ++ (List.range (n - (p - 1))).map (p - 1 + ·) := by
    rw [show n = (p - 1) + (n - (p - 1)) by omega, List.range_add]
    simp
  have e2 : n - (p - 1) = (n - p) + 1 := by omega
  rw [e, List.map_append, List.filter_append]
  have f1 : ((List.range (p - 1)).map (· + 1)).filter q = [] := by
    rw [List.filter_eq_nil_iff]
    intro x hx
    obtain ⟨k, hk, rfl⟩ := List.mem_map.mp hx
    rw [hl (k + 1) (by omega) (by have := List.mem_range.mp hk; omega)]
    exact Bool.false_ne_true
  rw [f1, e2, List.range_succ_eq_map]
  simp only [List.map_cons, List.nil_append]
  rw [show p - 1 + 0 + 1 = p by omega, List.filter_cons_of_pos hq]
  rfl
theorem least {P : Nat → Prop} : ∀ n, P n → ∃ m, m ≤ n ∧ P m ∧ ∀ k, k < m → ¬ P k := by
  intro n
  induction n using Nat.strongRecOn with
  | ind n ih =>
    intro h
    by_cases q : ∃ k, k < n ∧ P k
    · obtain ⟨k, hk, pk⟩ := q
      obtain ⟨m, h1, h2, h3⟩ := ih k hk pk
      exact ⟨m, by omega, h2, h3⟩
    · exact ⟨n, Nat.le_refl _, h, fun k hk hp => q ⟨k, hk, hp⟩⟩
theorem least_per {W : List Str} (hW : 0 < W.length) : ∃ p, 1 ≤ p ∧ p ≤ W.length ∧ Per W p ∧ (∀ k, 1 ≤ k → k < p → ¬ Per W k) ∧ W.length % p = 0 := by
  obtain ⟨p, hle, ⟨h1, h2⟩, h3⟩ := least (P := fun p => 1 ≤ p ∧ Per W p) W.length ⟨hW, per_len W⟩
  refine ⟨p, h1, hle, h2, fun k hk hlt hp => h3 k hlt ⟨hk, hp⟩, ?_⟩
  by_cases hz : W.length % p = 0
  · exact hz
  · exact absurd ⟨Nat.pos_of_ne_zero hz, per_mod h2 h1 _ (per_len W)⟩ (h3 _ (Nat.mod_lt _ h1))
theorem period_eq {W : List Str} (hW : 0 < W.length) : ∃ p, period W = p ∧ 1 ≤ p ∧ p ≤ W.length ∧ Per W p ∧ (∀ k, 1 ≤ k → k < p → ¬ Per W k) ∧ W.length % p = 0 := by
  obtain ⟨p, h1, h2, h3, h4, h5⟩ := least_per hW
  refine ⟨p, ?_, h1, h2, h3, h4, h5⟩
  unfold period fitL
  rw [List.filter_filter]
  refine first_of h1 h2 ?_ fun k hk hlt => ?_
  · rw [(rot_per hW h2).mpr h3, h5]
    rfl
  · have : rot W k = false := by
      cases q : rot W k with
      | false => rfl
      | true => exact absurd ((rot_per hW (by omega)).mp q) (h4 k hk hlt)
    rw [this]
    rfl
/-- first shift of a long strip -/
theorem again_eq {W : List Str} (hW : 0 < W.length) {m n : Nat} (hn : W.length ≤ n) (hm : n + W.length ≤ m) : (((List.range n).map (· + 1)).filter (sh (strip W m))).headD 0 = period W := by
  obtain ⟨p, h0, h1, h2, h3, h4, h5⟩ := period_eq hW
  rw [h0]
  refine first_of h1 (by omega) ((sh_strip hW (by omega)).mpr h3) fun k hk hlt => ?_
  cases q : sh (strip W m) k with
  | false => rfl
  | true => exact absurd ((sh_strip hW (by omega)).mp q) (h4 k hk hlt)
theorem lawper_eq {W : List Str} (hW : 0 < W.length) : (((List.range W.length).map (· + 1)).filter fun p => sh (strip W (2 * W.length)) p && (W.length % p == 0)).headD 0 = period W := by
  obtain ⟨p, h0, h1, h2, h3, h4, h5⟩ := period_eq hW
  rw [h0]
  refine first_of h1 h2 ?_ fun k hk hlt => ?_
  · rw [(sh_strip hW (by omega)).mpr h3, h5]
    rfl
  · have : sh (strip W (2 * W.length)) k = false := by
      cases q : sh (strip W (2 * W.length)) k with
      | false => rfl
      | true => exact absurd ((sh_strip hW (by omega)).mp q) (h4 k hk hlt)
    rw [this]
    rfl
/-! ### the law's helpers -/
def lrow (A : List Str) (tw : Bool) (t : Nat) : Str := let r := A.getD (t % A.length) default; if tw && ((t / A.length) % 2 == 1) then rv r else r
theorem lrow_eq {A : List Str} (hA : 0 < A.length) (tw : Bool) (t : Nat) : lrow A tw t = gS (whole A tw) t := by
  unfold gS
  rw [whole_len]
  unfold lrow
  cases tw with
  | false => simp [whole]
  | true =>
    simp only [if_true, Bool.true_and]
    have hd : (t / A.length) % 2 = 0 ∨ (t / A.length) % 2 = 1 := by omega
    have hm : t % (A.length * 2) = t % A.length + A.length * ((t / A.length) % 2) := Nat.mod_mul
    have hlt : t % A.length < A.length := Nat.mod_lt _ hA
    rw [hm]
    rcases hd with h | h
    · rw [h]
      show A.getD _ _ = (A ++ A.map rv).getD _ _
      rw [Nat.mul_zero, Nat.add_zero, List.getD_eq_getElem?_getD, List.getD_eq_getElem?_getD, List.getElem?_append_left hlt]
    · rw [h]
      show rv (A.getD _ _) = (A ++ A.map rv).getD _ _
      rw [Nat.mul_one, List.getD_eq_getElem?_getD, List.getD_eq_getElem?_getD, List.getElem?_append_right (by omega), Nat.add_sub_cancel, List.getElem?_map, List.getElem?_eq_getElem hlt]
      rfl
theorem law_row_ok (j : Nat) {w : Nat} {A : List Str} (h : Roll w A) (tw : Bool) {t : Nat} (ht : t ≤ 100000) (dr : List Int) : callD (pr.at j) 4 b__law_row [.tup (A.map .str), .bl tw, .int t] dr = .ok (.str (gS (whole A tw) t)) dr := by
  have hl := h.len
  have hn : 1 ≤ A.length := List.length_pos_iff.mpr h.ne
  rw [← lrow_eq (by omega)]
  have hlt : t % A.length < A.length := Nat.mod_lt _ (by omega)
  have e3 : (0 : Int) < (A.length : Int) := by omega
  have e1 : ((t : Int) % (A.length : Int)) = ((t % A.length : Nat) : Int) := by omega
  have e2 : L2.atI (A.map D.str) ((t : Int) % (A.length : Int)) = some (.str (A.getD (t % A.length) default)) := by
    rw [e1, atI_nat _ _ (by rw [List.length_map]; exact hlt), List.getElem_map, List.getD_eq_getElem?_getD, List.getElem?_eq_getElem hlt]
    rfl
  have hr : Row w (A.getD (t % A.length) default) := h.rows _ (by rw [List.getD_eq_getElem?_getD, List.getElem?_eq_getElem hlt]; exact List.getElem_mem _)
  have hz : szOk (A.getD (t % A.length) default).length = true := sz88 (by have := hr.1; have := h.w2; omega)
  have hdv : divOk (A.length : Int) = true := by
    unfold divOk
    rw [decide_eq_true e3, decide_eq_true (show (A.length : Int) < 1073741824 by omega)]
    rfl
  have e5 : (t : Int) / (A.length : Int) % 2 = ((t / A.length % 2 : Nat) : Int) := by omega
  have hsz2 : szOk 2 = true := sz88 (by omega)
  have tail : ∀ r : Str, ixD (.lst [.str r, .str (rv r)]) (.int ((if tw = true then 1 else 0) * ((t : Int) / (A.length : Int) % 2))) = some (.str (if tw && ((t / A.length) % 2 == 1) then rv r else r)) := fun r => by
    rw [e5]
    have hd : (t / A.length) % 2 = 0 ∨ (t / A.length) % 2 = 1 := by omega
    cases tw <;> rcases hd with q | q <;> rw [q] <;> rfl
  refine call_ret (by simp) ?_
  unfold b__law_row lrow
  simp only [evE_var, evE_non, evE_bl, evE_int, evE_str, evE_glo, evE_fnv, evE_bin, evE_neg, evE_cmp, evE_cmp2, evE_isN, evE_notN, evE_and, evE_or, evE_not, evE_ife, evE_tup, evE_lst, evE_dicE, evE_call, evE_callv, evE_blt, evE_isi, evE_meth, evE_ix, evE_sl, evE_rev, evE_dpop, evE_dlen, evE_lrev, evT_not, evT_and, evT_or, evT_cmp, evT_cmp2, evT_isN, evT_notN, evT_call, evT_blt, evT_isi, evT_var, evT_ix, evL_nil, evL_cons, evL_scons, evLp_nil, evLp_cons, evO_nil, evI_rng, evI_enum, evI_zip, evI_items, evI_vals, evB_done, evB_ex, evB_asg, evB_own, evB_par, evB_par3, evB_aug, evB_app, evB_ext, evB_setI, evB_augI, evB_popS, evB_popD, evB_frz, evB_ifs, evB_brk, evB_cnt, evB_ret, evB_ret0, evB_dead, evO_one, evI_one, evTs_nil, evTs_one, evB_rse0, evAnd_1, evOr_1, evTand_1, evTor_1, evAnd_2, evOr_2, evTand_2, evTor_2, rb_ok, rb_exc, rb_bad, oo_some, get_0, get_1, get_2, get_3, get_4, get_5, get_6, get_7, get_8, get_9, get_10, get_11, get_12, get_13, get_14, get_15, get_16, get_17, varP_v, varP_o, varS_v, if_true, if_false, Bool.false_eq_true, asgP_0, asgP_1, asgP_2, asgP_3, asgP_4, asgP_5, asgP_6, asgP_7, asgP_8, asgP_9, asgP_10, asgP_11, asgP_12, asgP_13, asgP_14, asgP_15, asgP_16, asgP_17, List.map_cons, List.map_nil, List.length_cons, List.length_nil, Nat.reduceAdd, Nat.reduceSub, List.replicate_succ, List.replicate_zero, List.cons_append, List.nil_append, Option.map_some, bl_int, bl_len_tup, List.length_map, bi_mod e3, ix_tup, e2, bl_int_b, bi_div hdv, bi_mod (show (0 : Int) < 2 by omega)]
  rw [bi_mul (mul_small (by cases tw <;> simp) (by cases tw <;> simp))]
  simp only [evE_var, evE_non, evE_bl, evE_int, evE_str, evE_glo, evE_fnv, evE_bin, evE_neg, evE_cmp, evE_cmp2, evE_isN, evE_notN, evE_and, evE_or, evE_not, evE_ife, evE_tup, evE_lst, evE_dicE, evE_call, evE_callv, evE_blt, evE_isi, evE_meth, evE_ix, evE_sl, evE_rev, evE_dpop, evE_dlen, evE_lrev, evT_not, evT_and, evT_or, evT_cmp, evT_cmp2, evT_isN, evT_notN, evT_call, evT_blt, evT_isi, evT_var, evT_ix, evL_nil, evL_cons, evL_scons, evLp_nil, evLp_cons, evO_nil, evI_rng, evI_enum, evI_zip, evI_items, evI_vals, evB_done, evB_ex, evB_asg, evB_own, evB_par, evB_par3, evB_aug, evB_app, evB_ext, evB_setI, evB_augI, evB_popS, evB_popD, evB_frz, evB_ifs, evB_brk, evB_cnt, evB_ret, evB_ret0, evB_dead, evO_one, evI_one, evTs_nil, evTs_one, evB_rse0, evAnd_1, evOr_1, evTand_1, evTor_1, evAnd_2, evOr_2, evTand_2, evTor_2, rb_ok, rb_exc, rb_bad, oo_some, get_0, get_1, get_2, get_3, get_4, get_5, get_6, get_7, get_8, get_9, get_10, get_11, get_12, get_13, get_14, get_15, get_16, get_17, varP_v, varP_o, varS_v, if_true, if_false, Bool.false_eq_true, asgP_0, asgP_1, asgP_2, asgP_3, asgP_4, asgP_5, asgP_6, asgP_7, asgP_8, asgP_9, asgP_10, asgP_11, asgP_12, asgP_13, asgP_14, asgP_15, asgP_16, asgP_17, List.map_cons, List.map_nil, List.length_cons, List.length_nil, Nat.reduceAdd, Nat.reduceSub, List.replicate_succ, List.replicate_zero, List.cons_append, List.nil_append, Option.map_some, rv_str hz]
  show ((ofO (grd (szOk 2) _) dr).bind _).bind _ = _
  rw [hsz2]
  show ((ofO (ixD (.lst [.str (A.getD (t % A.length) default), .str (rv (A.getD (t % A.length) default))]) _) dr).bind _) = _
  rw [tail]
  rfl
theorem mul2 {n : Nat} (h : n ≤ 1000000) (c : Int) : mulOk c (n : Int) = true := by
  unfold mulOk
  rw [decide_eq_true (show -(2 ^ 64) < (n : Int) ∧ (n : Int) < 2 ^ 64 by omega)]
  simp
theorem law_period_ok (j : Nat) {w : Nat} {A : List Str} (h : Roll w A) (tw : Bool) (dr : List Int) : callD (pr.at (j + 1)) 6 b__law_period [.tup (A.map .str), .bl tw] dr = .ok (.int (period (whole A tw))) dr := by
  obtain ⟨hpos, hmax⟩ := whole_pos h tw
  have hrow := whole_rows h tw
  have hlen := whole_len A tw
  rw [← lawper_eq hpos]
  have hl := h.len
  generalize hW : whole A tw = W at *
  have e0 : (A.length : Int) * (1 + (if tw = true then 1 else 0)) = (W.length : Int) := by
    rw [hlen]
    cases tw <;> simp
  have hstr : ∀ s ∈ strip W (2 * W.length), PyData.strOk s = true := fun s hs => by
    unfold strip at hs
    obtain ⟨k, _, rfl⟩ := List.mem_map.mp hs
    have hlt : k % W.length < W.length := Nat.mod_lt _ hpos
    rw [List.getD_eq_getElem?_getD, List.getElem?_eq_getElem hlt]
    exact strOk_row (hrow _ (List.getElem_mem _))
  have h1 : ∀ pk x y z, evE (pr.at (j + 1)) (.lc (.nm 4) (.rng (.cons (.bin .mul (.int 2) (.var 2)) .nil)) .nil (.call "_law_row" (.cons (.var 0) (.cons (.var 1) (.cons (.var 4) .nil))))) pk [.val (.tup (A.map .str)), .val (.bl tw), .val (.int W.length), x, y, z] dr =
      .ok (.lst ((strip W (2 * W.length)).map .str)) dr := fun pk x y z => by
    have e2 : (2 : Int) * (W.length : Int) = ((2 * W.length : Nat) : Int) := by omega
    rw [ev_lcm (fun d => match d with
      | .int i => .str (gS W i.toNat)
      | d => d) (ev_rng1 (m := 2 * W.length) (by omega) (by simp only [evE_var, evE_non, evE_bl, evE_int, evE_str, evE_glo, evE_fnv, evE_bin, evE_neg, evE_cmp, evE_cmp2, evE_isN, evE_notN, evE_and, evE_or, evE_not, evE_ife, evE_tup, evE_lst, evE_dicE, evE_call, evE_callv, evE_blt, evE_isi, evE_meth, evE_ix, evE_sl, evE_rev, evE_dpop, evE_dlen, evE_lrev, evT_not, evT_and, evT_or, evT_cmp, evT_cmp2, evT_isN, evT_notN, evT_call, evT_blt, evT_isi, evT_var, evT_ix, evL_nil, evL_cons, evL_scons, evLp_nil, evLp_cons, evO_nil, evI_rng, evI_enum, evI_zip, evI_items, evI_vals, evB_done, evB_ex, evB_asg, evB_own, evB_par, evB_par3, evB_aug, evB_app, evB_ext, evB_setI, evB_augI, evB_popS, evB_popD, evB_frz, evB_ifs, evB_brk, evB_cnt, evB_ret, evB_ret0, evB_dead, evO_one, evI_one, evTs_nil, evTs_one, evB_rse0, evAnd_1, evOr_1, evTand_1, evTor_1, evAnd_2, evOr_2, evTand_2, evTor_2, rb_ok, rb_exc, rb_bad, oo_some, get_0, get_1, get_2, get_3, get_4, get_5, get_6, get_7, get_8, get_9, get_10, get_11, get_12, get_13, get_14, get_15, get_16, get_17, varP_v, varP_o, varS_v, if_true, if_false, Bool.false_eq_true, asgP_0, asgP_1, asgP_2, asgP_3, asgP_4, asgP_5, asgP_6, asgP_7, asgP_8, asgP_9, asgP_10, asgP_11, asgP_12, asgP_13, asgP_14, asgP_15, asgP_16, asgP_17, List.map_cons, List.map_nil, List.length_cons, List.length_nil, Nat.reduceAdd, Nat.reduceSub, List.replicate_succ, List.replicate_zero, List.cons_append, List.nil_append, Option.map_some, bi_mul (mul2 (n := W.length) (by omega) 2), e2])) fun d hd => ?_]
    · unfold strip
      rw [List.map_map, List.map_map]
      rfl
    · obtain ⟨k, hk, rfl⟩ := List.mem_map.mp hd
      have hk2 := List.mem_range.mp hk
      have hr := law_row_ok j h tw (t := k) (by omega) dr
      rw [hW] at hr
      unfold lcB
      simp only [evE_var, evE_non, evE_bl, evE_int, evE_str, evE_glo, evE_fnv, evE_bin, evE_neg, evE_cmp, evE_cmp2, evE_isN, evE_notN, evE_and, evE_or, evE_not, evE_ife, evE_tup, evE_lst, evE_dicE, evE_call, evE_callv, evE_blt, evE_isi, evE_meth, evE_ix, evE_sl, evE_rev, evE_dpop, evE_dlen, evE_lrev, evT_not, evT_and, evT_or, evT_cmp, evT_cmp2, evT_isN, evT_notN, evT_call, evT_blt, evT_isi, evT_var, evT_ix, evL_nil, evL_cons, evL_scons, evLp_nil, evLp_cons, evO_nil, evI_rng, evI_enum, evI_zip, evI_items, evI_vals, evB_done, evB_ex, evB_asg, evB_own, evB_par, evB_par3, evB_aug, evB_app, evB_ext, evB_setI, evB_augI, evB_popS, evB_popD, evB_frz, evB_ifs, evB_brk, evB_cnt, evB_ret, evB_ret0, evB_dead, evO_one, evI_one, evTs_nil, evTs_one, evB_rse0, evAnd_1, evOr_1, evTand_1, evTor_1, evAnd_2, evOr_2, evTand_2, evTor_2, rb_ok, rb_exc, rb_bad, oo_some, get_0, get_1, get_2, get_3, get_4, get_5, get_6, get_7, get_8, get_9, get_10, get_11, get_12, get_13, get_14, get_15, get_16, get_17, varP_v, varP_o, varS_v, if_true, if_false, Bool.false_eq_true, asgP_0, asgP_1, asgP_2, asgP_3, asgP_4, asgP_5, asgP_6, asgP_7, asgP_8, asgP_9, asgP_10, asgP_11, asgP_12, asgP_13, asgP_14, asgP_15, asgP_16, asgP_17, List.map_cons, List.map_nil, List.length_cons, List.length_nil, Nat.reduceAdd, Nat.reduceSub, List.replicate_succ, List.replicate_zero, List.cons_append, List.nil_append, Option.map_some, wipeE, slots, List.set_cons_zero, List.set_cons_succ, f__law_row, hr]
      rfl
  have h2 : ∀ pk y z, evE (pr.at (j + 1)) (.lc (.nm 5) (.rng (.cons (.int 1) (.cons (.bin .add (.var 2) (.int 1)) .nil))) (.cons (.and (.cons (.cmp .eq (.sl (.var 3) (.cons (.var 5) .nil) .nil) (.sl (.var 3) .nil (.cons (.bin .sub (.blt .len (.cons (.var 3) .nil)) (.var 5)) .nil))) (.cons (.cmp .eq (.bin .mod (.blt .int (.cons (.var 2) .nil)) (.var 5)) (.int 0)) .nil))) .nil) (.var 5)) pk
      [.val (.tup (A.map .str)), .val (.bl tw), .val (.int W.length), .val (.lst ((strip W (2 * W.length)).map .str)), y, z] dr =
      .ok (.lst (((((List.range W.length).map (· + 1)).filter fun p => sh (strip W (2 * W.length)) p && (W.length % p == 0))).map fun (p : Nat) => D.int (p : Int))) dr := fun pk y z => by
    rw [ev_lc (ofI fun p => sh (strip W (2 * W.length)) p && (W.length % p == 0)) (ev_rng2 (m := W.length) (by omega) (evE_int _ _ _ _ _) (by simp only [evE_var, evE_non, evE_bl, evE_int, evE_str, evE_glo, evE_fnv, evE_bin, evE_neg, evE_cmp, evE_cmp2, evE_isN, evE_notN, evE_and, evE_or, evE_not, evE_ife, evE_tup, evE_lst, evE_dicE, evE_call, evE_callv, evE_blt, evE_isi, evE_meth, evE_ix, evE_sl, evE_rev, evE_dpop, evE_dlen, evE_lrev, evT_not, evT_and, evT_or, evT_cmp, evT_cmp2, evT_isN, evT_notN, evT_call, evT_blt, evT_isi, evT_var, evT_ix, evL_nil, evL_cons, evL_scons, evLp_nil, evLp_cons, evO_nil, evI_rng, evI_enum, evI_zip, evI_items, evI_vals, evB_done, evB_ex, evB_asg, evB_own, evB_par, evB_par3, evB_aug, evB_app, evB_ext, evB_setI, evB_augI, evB_popS, evB_popD, evB_frz, evB_ifs, evB_brk, evB_cnt, evB_ret, evB_ret0, evB_dead, evO_one, evI_one, evTs_nil, evTs_one, evB_rse0, evAnd_1, evOr_1, evTand_1, evTor_1, evAnd_2, evOr_2, evTand_2, evTor_2, rb_ok, rb_exc, rb_bad, oo_some, get_0, get_1, get_2, get_3, get_4, get_5, get_6, get_7, get_8, get_9, get_10, get_11, get_12, get_13, get_14, get_15, get_16, get_17, varP_v, varP_o, varS_v, if_true, if_false, Bool.false_eq_true, asgP_0, asgP_1, asgP_2, asgP_3, asgP_4, asgP_5, asgP_6, asgP_7, asgP_8, asgP_9, asgP_10, asgP_11, asgP_12, asgP_13, asgP_14, asgP_15, asgP_16, asgP_17, List.map_cons, List.map_nil, List.length_cons, List.length_nil, Nat.reduceAdd, Nat.reduceSub, List.replicate_succ, List.replicate_zero, List.cons_append, List.nil_append, Option.map_some, bi_add])) fun d hd => ?_]
    · rw [range1, ofI_map]
    · obtain ⟨k, hk, rfl⟩ := List.mem_map.mp hd
      have hk2 := List.mem_range.mp hk
      have hsl := strip_len W (2 * W.length)
      generalize hR : strip W (2 * W.length) = R at *
      have s1 : slD (.lst (R.map D.str)) (some ((k + 1 : Nat) : Int)) none = some (.lst ((R.drop (k + 1)).map D.str)) := by
        show some (D.lst (cut (R.map D.str) (some ((k + 1 : Nat) : Int)) none)) = _
        rw [cut_drop, List.map_drop]
      have e6 : (R.length : Int) - ((k + 1 : Nat) : Int) = ((R.length - (k + 1) : Nat) : Int) := by omega
      have s2 : slD (.lst (R.map D.str)) none (some ((R.length : Int) - ((k + 1 : Nat) : Int))) = some (.lst ((R.take (R.length - (k + 1))).map D.str)) := by
        rw [e6]
        show some (D.lst (cut (R.map D.str) none (some ((R.length - (k + 1) : Nat) : Int)))) = _
        rw [cut_take, List.map_take]
      have s4 : eqD (.lst ((R.drop (k + 1)).map D.str)) (.lst ((R.take (R.length - (k + 1))).map D.str)) = some (sh R (k + 1)) := eqD_lst _ _ (fun a ha => hstr a (List.mem_of_mem_drop ha)) fun a ha => hstr a (List.mem_of_mem_take ha)
      have e3 : (0 : Int) < ((k + 1 : Nat) : Int) := by omega
      have e4 : ((W.length : Int) % ((k + 1 : Nat) : Int) == 0) = (W.length % (k + 1) == 0) := by
        have : (W.length : Int) % ((k + 1 : Nat) : Int) = ((W.length % (k + 1) : Nat) : Int) := by omega
        rw [this]
        cases q : W.length % (k + 1) <;> rfl
      unfold lcB
      simp only [evE_var, evE_non, evE_bl, evE_int, evE_str, evE_glo, evE_fnv, evE_bin, evE_neg, evE_cmp, evE_cmp2, evE_isN, evE_notN, evE_and, evE_or, evE_not, evE_ife, evE_tup, evE_lst, evE_dicE, evE_call, evE_callv, evE_blt, evE_isi, evE_meth, evE_ix, evE_sl, evE_rev, evE_dpop, evE_dlen, evE_lrev, evT_not, evT_and, evT_or, evT_cmp, evT_cmp2, evT_isN, evT_notN, evT_call, evT_blt, evT_isi, evT_var, evT_ix, evL_nil, evL_cons, evL_scons, evLp_nil, evLp_cons, evO_nil, evI_rng, evI_enum, evI_zip, evI_items, evI_vals, evB_done, evB_ex, evB_asg, evB_own, evB_par, evB_par3, evB_aug, evB_app, evB_ext, evB_setI, evB_augI, evB_popS, evB_popD, evB_frz, evB_ifs, evB_brk, evB_cnt, evB_ret, evB_ret0, evB_dead, evO_one, evI_one, evTs_nil, evTs_one, evB_rse0, evAnd_1, evOr_1, evTand_1, evTor_1, evAnd_2, evOr_2, evTand_2, evTor_2, rb_ok, rb_exc, rb_bad, oo_some, get_0, get_1, get_2, get_3, get_4, get_5, get_6, get_7, get_8, get_9, get_10, get_11, get_12, get_13, get_14, get_15, get_16, get_17, varP_v, varP_o, varS_v, if_true, if_false, Bool.false_eq_true, asgP_0, asgP_1, asgP_2, asgP_3, asgP_4, asgP_5, asgP_6, asgP_7, asgP_8, asgP_9, asgP_10, asgP_11, asgP_12, asgP_13, asgP_14, asgP_15, asgP_16, asgP_17, List.map_cons, List.map_nil, List.length_cons, List.length_nil, Nat.reduceAdd, Nat.reduceSub, List.replicate_succ, List.replicate_zero, List.cons_append, List.nil_append, Option.map_some, wipeE, slots, List.set_cons_zero, List.set_cons_succ, evO_one, evO_nil, s1, bl_len_lst, List.length_map, bi_sub, s2, cm_eq, s4, bl_int, bi_mod e3, eqD_int, e4]
      show _ = Res.ok (if (sh R (((k + 1 : Nat) : Int).toNat) && (W.length % (((k + 1 : Nat) : Int).toNat) == 0)) = true then _ else _) dr
      rw [Int.toNat_natCast]
      cases sh R (k + 1) <;> cases (W.length % (k + 1) == 0) <;> rfl
  have hne : (((List.range W.length).map (· + 1)).filter fun p => sh (strip W (2 * W.length)) p && (W.length % p == 0)) ≠ [] := fun e => by
    obtain ⟨p, h0, hp1, _⟩ := period_eq hpos
    have := lawper_eq hpos
    rw [e, h0] at this
    have : 0 = p := this
    omega
  refine call_ret (by simp) ?_
  unfold b__law_period
  simp only [evE_var, evE_non, evE_bl, evE_int, evE_str, evE_glo, evE_fnv, evE_bin, evE_neg, evE_cmp, evE_cmp2, evE_isN, evE_notN, evE_and, evE_or, evE_not, evE_ife, evE_tup, evE_lst, evE_dicE, evE_call, evE_callv, evE_blt, evE_isi, evE_meth, evE_ix, evE_sl, evE_rev, evE_dpop, evE_dlen, evE_lrev, evT_not, evT_and, evT_or, evT_cmp, evT_cmp2, evT_isN, evT_notN, evT_call, evT_blt, evT_isi, evT_var, evT_ix, evL_nil, evL_cons, evL_scons, evLp_nil, evLp_cons, evO_nil, evI_rng, evI_enum, evI_zip, evI_items, evI_vals, evB_done, evB_ex, evB_asg, evB_own, evB_par, evB_par3, evB_aug, evB_app, evB_ext, evB_setI, evB_augI, evB_popS, evB_popD, evB_frz, evB_ifs, evB_brk, evB_cnt, evB_ret, evB_ret0, evB_dead, evO_one, evI_one, evTs_nil, evTs_one, evB_rse0, evAnd_1, evOr_1, evTand_1, evTor_1, evAnd_2, evOr_2, evTand_2, evTor_2, rb_ok, rb_exc, rb_bad, oo_some, get_0, get_1, get_2, get_3, get_4, get_5, get_6, get_7, get_8, get_9, get_10, get_11, get_12, get_13, get_14, get_15, get_16, get_17, varP_v, varP_o, varS_v, if_true, if_false, Bool.false_eq_true, asgP_0, asgP_1, asgP_2, asgP_3, asgP_4, asgP_5, asgP_6, asgP_7, asgP_8, asgP_9, asgP_10, asgP_11, asgP_12, asgP_13, asgP_14, asgP_15, asgP_16, asgP_17, List.map_cons, List.map_nil, List.length_cons, List.length_nil, Nat.reduceAdd, Nat.reduceSub, List.replicate_succ, List.replicate_zero, List.cons_append, List.nil_append, Option.map_some, bl_len_tup, List.length_map, bl_int_b, bi_add]
  rw [bi_mul (by
    have := mul2 (n := A.length) (by omega) 0
    unfold mulOk
    rw [decide_eq_true (show -(2 ^ 64) < (A.length : Int) ∧ (A.length : Int) < 2 ^ 64 by omega)]
    rfl), e0]
  simp only [evE_var, evE_non, evE_bl, evE_int, evE_str, evE_glo, evE_fnv, evE_bin, evE_neg, evE_cmp, evE_cmp2, evE_isN, evE_notN, evE_and, evE_or, evE_not, evE_ife, evE_tup, evE_lst, evE_dicE, evE_call, evE_callv, evE_blt, evE_isi, evE_meth, evE_ix, evE_sl, evE_rev, evE_dpop, evE_dlen, evE_lrev, evT_not, evT_and, evT_or, evT_cmp, evT_cmp2, evT_isN, evT_notN, evT_call, evT_blt, evT_isi, evT_var, evT_ix, evL_nil, evL_cons, evL_scons, evLp_nil, evLp_cons, evO_nil, evI_rng, evI_enum, evI_zip, evI_items, evI_vals, evB_done, evB_ex, evB_asg, evB_own, evB_par, evB_par3, evB_aug, evB_app, evB_ext, evB_setI, evB_augI, evB_popS, evB_popD, evB_frz, evB_ifs, evB_brk, evB_cnt, evB_ret, evB_ret0, evB_dead, evO_one, evI_one, evTs_nil, evTs_one, evB_rse0, evAnd_1, evOr_1, evTand_1, evTor_1, evAnd_2, evOr_2, evTand_2, evTor_2, rb_ok, rb_exc, rb_bad, oo_some, get_0, get_1, get_2, get_3, get_4, get_5, get_6, get_7, get_8, get_9, get_10, get_11, get_12, get_13, get_14, get_15, get_16, get_17, varP_v, varP_o, varS_v, if_true, if_false, Bool.false_eq_true, asgP_0, asgP_1, asgP_2, asgP_3, asgP_4, asgP_5, asgP_6, asgP_7, asgP_8, asgP_9, asgP_10, asgP_11, asgP_12, asgP_13, asgP_14, asgP_15, asgP_16, asgP_17, List.map_cons, List.map_nil, List.length_cons, List.length_nil, Nat.reduceAdd, Nat.reduceSub, List.replicate_succ, List.replicate_zero, List.cons_append, List.nil_append, Option.map_some]
  rw [h1, rb_ok, h2, rb_ok, ix_lst, head_ne 0 hne (fun (p : Nat) => D.int (p : Int))]
  rfl
/-! ### draws -/
theorem take_ok (j : Nat) {b : Nat} (hb : 0 < b) (dr : List Int) : ∃ (k : Nat) (dr' : List Int), callD (pr.at j) 2 b__law_take [.drw, .int b] dr = .ok (.int k) dr' ∧ k < b := by
  cases dr with
  | nil => exact ⟨0, [], by kernel_rfl, hb⟩
  | cons x r =>
    have hb2 : (0 : Int) < (b : Int) := by omega
    refine ⟨(x % (b : Int)).toNat, r, ?_, by have := Int.emod_lt_of_pos x hb2; have := Int.emod_nonneg x (Int.ne_of_gt hb2); omega⟩
    have e1 : ((x % (b : Int)).toNat : Int) = x % (b : Int) := Int.toNat_of_nonneg (Int.emod_nonneg x (Int.ne_of_gt hb2))
    rw [e1]
    have e2 : (((r.length + 1 : Nat) : Int) == 0) = false := by
      rw [beq_eq_false_iff_ne]
      omega
    refine call_ret (by simp) ?_
    unfold b__law_take
    simp only [evE_var, evE_non, evE_bl, evE_int, evE_str, evE_glo, evE_fnv, evE_bin, evE_neg, evE_cmp, evE_cmp2, evE_isN, evE_notN, evE_and, evE_or, evE_not, evE_ife, evE_tup, evE_lst, evE_dicE, evE_call, evE_callv, evE_blt, evE_isi, evE_meth, evE_ix, evE_sl, evE_rev, evE_dpop, evE_dlen, evE_lrev, evT_not, evT_and, evT_or, evT_cmp, evT_cmp2, evT_isN, evT_notN, evT_call, evT_blt, evT_isi, evT_var, evT_ix, evL_nil, evL_cons, evL_scons, evLp_nil, evLp_cons, evO_nil, evI_rng, evI_enum, evI_zip, evI_items, evI_vals, evB_done, evB_ex, evB_asg, evB_own, evB_par, evB_par3, evB_aug, evB_app, evB_ext, evB_setI, evB_augI, evB_popS, evB_popD, evB_frz, evB_ifs, evB_brk, evB_cnt, evB_ret, evB_ret0, evB_dead, evO_one, evI_one, evTs_nil, evTs_one, evB_rse0, evAnd_1, evOr_1, evTand_1, evTor_1, evAnd_2, evOr_2, evTand_2, evTor_2, rb_ok, rb_exc, rb_bad, oo_some, get_0, get_1, get_2, get_3, get_4, get_5, get_6, get_7, get_8, get_9, get_10, get_11, get_12, get_13, get_14, get_15, get_16, get_17, varP_v, varP_o, varS_v, if_true, if_false, Bool.false_eq_true, asgP_0, asgP_1, asgP_2, asgP_3, asgP_4, asgP_5, asgP_6, asgP_7, asgP_8, asgP_9, asgP_10, asgP_11, asgP_12, asgP_13, asgP_14, asgP_15, asgP_16, asgP_17, List.map_cons, List.map_nil, List.length_cons, List.length_nil, Nat.reduceAdd, Nat.reduceSub, List.replicate_succ, List.replicate_zero, List.cons_append, List.nil_append, Option.map_some, cm_eq, eqD_int, e2, bl_int, bi_mod hb2]
theorem pick_ok (j : Nat) {ds : List D} (h0 : 0 < ds.length) (dr : List Int) : ∃ (d : D) (dr' : List Int), callD (pr.at (j + 1)) 2 b__law_pick [.drw, .lst ds] dr = .ok d dr' ∧ d ∈ ds := by
  obtain ⟨k, dr', e, hk⟩ := take_ok j h0 dr
  refine ⟨ds[k], dr', ?_, List.getElem_mem _⟩
  refine call_ret (by simp) ?_
  unfold b__law_pick
  simp only [evE_var, evE_non, evE_bl, evE_int, evE_str, evE_glo, evE_fnv, evE_bin, evE_neg, evE_cmp, evE_cmp2, evE_isN, evE_notN, evE_and, evE_or, evE_not, evE_ife, evE_tup, evE_lst, evE_dicE, evE_call, evE_callv, evE_blt, evE_isi, evE_meth, evE_ix, evE_sl, evE_rev, evE_dpop, evE_dlen, evE_lrev, evT_not, evT_and, evT_or, evT_cmp, evT_cmp2, evT_isN, evT_notN, evT_call, evT_blt, evT_isi, evT_var, evT_ix, evL_nil, evL_cons, evL_scons, evLp_nil, evLp_cons, evO_nil, evI_rng, evI_enum, evI_zip, evI_items, evI_vals, evB_done, evB_ex, evB_asg, evB_own, evB_par, evB_par3, evB_aug, evB_app, evB_ext, evB_setI, evB_augI, evB_popS, evB_popD, evB_frz, evB_ifs, evB_brk, evB_cnt, evB_ret, evB_ret0, evB_dead, evO_one, evI_one, evTs_nil, evTs_one, evB_rse0, evAnd_1, evOr_1, evTand_1, evTor_1, evAnd_2, evOr_2, evTand_2, evTor_2, rb_ok, rb_exc, rb_bad, oo_some, get_0, get_1, get_2, get_3, get_4, get_5, get_6, get_7, get_8, get_9, get_10, get_11, get_12, get_13, get_14, get_15, get_16, get_17, varP_v, varP_o, varS_v, if_true, if_false, Bool.false_eq_true, asgP_0, asgP_1, asgP_2, asgP_3, asgP_4, asgP_5, asgP_6, asgP_7, asgP_8, asgP_9, asgP_10, asgP_11, asgP_12, asgP_13, asgP_14, asgP_15, asgP_16, asgP_17, List.map_cons, List.map_nil, List.length_cons, List.length_nil, Nat.reduceAdd, Nat.reduceSub, List.replicate_succ, List.replicate_zero, List.cons_append, List.nil_append, Option.map_some, bl_len_lst, f__law_take, e, ix_lst, atI_nat _ _ hk]
/-! ### the same -/
def Good : Nat → D → Prop
  | _, .non => True
  | _, .bl _ => True
  | _, .int _ => True
  | _, .str s => PyData.strOk s = true
  | n + 1, .tup ds => ds.length ≤ 10000 ∧ ∀ d ∈ ds, Good n d
  | n + 1, .lst ds => ds.length ≤ 10000 ∧ ∀ d ∈ ds, Good n d
  | _, _ => False
theorem same_row (j : Nat) (x : D) {ds : List D} (hx : ∀ i, ixD x (.int i) = L2.atI ds i) (hn : ds.length ≤ 10000) (ih : ∀ d ∈ ds, ∀ dr, callD (pr.at j) 4 b__law_same [d, d] dr = .ok (.bl true) dr) (s2 s3 : Sl) (dr : List Int) :
    ∃ env', forL (fun d env dr => (ofO (asgP (.nm 2) d env) dr).bind fun env dr => evB (pr.at (j + 1)) (.ifs (.not (.call "_law_same" (.cons (.ix (.var 0) (.var 2)) (.cons (.ix (.var 1) (.var 2)) .nil)))) (.ret (.bl false)) .done .done) env dr) ((List.range ds.length).map fun (k : Nat) => D.int (k : Int)) [.val x, .val x, s2, s3] dr = .ok (.nx env') dr := by
  obtain ⟨env', dr', e, _, _, _, hd⟩ := forL_nx (b := fun d env dr => (ofO (asgP (.nm 2) d env) dr).bind fun env dr => evB (pr.at (j + 1)) (.ifs (.not (.call "_law_same" (.cons (.ix (.var 0) (.var 2)) (.cons (.ix (.var 1) (.var 2)) .nil)))) (.ret (.bl false)) .done .done) env dr) (fun _ env dr' => ∃ a b, env = [.val x, .val x, a, b] ∧ dr' = dr) ((List.range ds.length).map fun (k : Nat) => D.int (k : Int)) 0 [.val x, .val x, s2, s3] dr ⟨s2, s3, rfl, rfl⟩ fun k d env dr1 hk hi => by
    obtain ⟨a, b, rfl, rfl⟩ := hi
    have hk2 : k < ds.length := by
      have := (List.getElem?_eq_some_iff.mp hk).1
      rw [List.length_map, List.length_range] at this
      exact this
    rw [List.getElem?_map, List.getElem?_range hk2] at hk
    cases (show some (D.int (k : Int)) = some d from hk)
    refine ⟨[.val x, .val x, .val (.int k), b], dr1, .inl ?_, _, _, rfl, rfl⟩
    have hc := ih ds[k] (List.getElem_mem _) dr1
    simp only [evE_var, evE_non, evE_bl, evE_int, evE_str, evE_glo, evE_fnv, evE_bin, evE_neg, evE_cmp, evE_cmp2, evE_isN, evE_notN, evE_and, evE_or, evE_not, evE_ife, evE_tup, evE_lst, evE_dicE, evE_call, evE_callv, evE_blt, evE_isi, evE_meth, evE_ix, evE_sl, evE_rev, evE_dpop, evE_dlen, evE_lrev, evT_not, evT_and, evT_or, evT_cmp, evT_cmp2, evT_isN, evT_notN, evT_call, evT_blt, evT_isi, evT_var, evT_ix, evL_nil, evL_cons, evL_scons, evLp_nil, evLp_cons, evO_nil, evI_rng, evI_enum, evI_zip, evI_items, evI_vals, evB_done, evB_ex, evB_asg, evB_own, evB_par, evB_par3, evB_aug, evB_app, evB_ext, evB_setI, evB_augI, evB_popS, evB_popD, evB_frz, evB_ifs, evB_brk, evB_cnt, evB_ret, evB_ret0, evB_dead, evO_one, evI_one, evTs_nil, evTs_one, evB_rse0, evAnd_1, evOr_1, evTand_1, evTor_1, evAnd_2, evOr_2, evTand_2, evTor_2, rb_ok, rb_exc, rb_bad, oo_some, get_0, get_1, get_2, get_3, get_4, get_5, get_6, get_7, get_8, get_9, get_10, get_11, get_12, get_13, get_14, get_15, get_16, get_17, varP_v, varP_o, varS_v, if_true, if_false, Bool.false_eq_true, asgP_0, asgP_1, asgP_2, asgP_3, asgP_4, asgP_5, asgP_6, asgP_7, asgP_8, asgP_9, asgP_10, asgP_11, asgP_12, asgP_13, asgP_14, asgP_15, asgP_16, asgP_17, List.map_cons, List.map_nil, List.length_cons, List.length_nil, Nat.reduceAdd, Nat.reduceSub, List.replicate_succ, List.replicate_zero, List.cons_append, List.nil_append, Option.map_some, hx, atI_nat _ _ hk2, f__law_same, hc, D.tru, Bool.not_true]
  exact ⟨env', by rw [e, hd]⟩
theorem ty1 : (Ty.tuple == Ty.bool) = false ∧ (Ty.tuple == Ty.int) = false ∧ (Ty.tuple == Ty.str) = false ∧ (Ty.list == Ty.bool) = false ∧ (Ty.list == Ty.int) = false ∧ (Ty.list == Ty.str) = false ∧ (Ty.dict == Ty.bool) = false ∧ (Ty.dict == Ty.int) = false ∧ (Ty.dict == Ty.str) = false := by decide
theorem ty2 : (Ty.bool == Ty.bool) = true ∧ (Ty.int == Ty.bool) = false ∧ (Ty.int == Ty.int) = true ∧ (Ty.str == Ty.bool) = false ∧ (Ty.str == Ty.int) = false ∧ (Ty.str == Ty.str) = true ∧ (Ty.bool == Ty.int) = false ∧ (Ty.bool == Ty.str) = false ∧ (Ty.int == Ty.str) = false := by decide
theorem ty3 : (Ty.tuple == Ty.tuple) = true ∧ (Ty.list == Ty.tuple) = false ∧ (Ty.tuple == Ty.list) = false ∧ (Ty.list == Ty.list) = true := by decide
theorem same_sc (j : Nat) (x : D) (h : Good 0 x) (dr : List Int) : callD (pr.at j) 4 b__law_same [x, x] dr = .ok (.bl true) dr := by
  obtain ⟨a1, a2, a3, a4, a5, a6, a7, a8, a9⟩ := ty1
  obtain ⟨c1, c2, c3, c4, c5, c6, c7, c8, c9⟩ := ty2
  cases x with
  | non => kernel_rfl
  | bl b =>
    refine call_ret (by simp) ?_
    unfold b__law_same
    simp only [evE_var, evE_non, evE_bl, evE_int, evE_str, evE_glo, evE_fnv, evE_bin, evE_neg, evE_cmp, evE_cmp2, evE_isN, evE_notN, evE_and, evE_or, evE_not, evE_ife, evE_tup, evE_lst, evE_dicE, evE_call, evE_callv, evE_blt, evE_isi, evE_meth, evE_ix, evE_sl, evE_rev, evE_dpop, evE_dlen, evE_lrev, evT_not, evT_and, evT_or, evT_cmp, evT_cmp2, evT_isN, evT_notN, evT_call, evT_blt, evT_isi, evT_var, evT_ix, evL_nil, evL_cons, evL_scons, evLp_nil, evLp_cons, evO_nil, evI_rng, evI_enum, evI_zip, evI_items, evI_vals, evB_done, evB_ex, evB_asg, evB_own, evB_par, evB_par3, evB_aug, evB_app, evB_ext, evB_setI, evB_augI, evB_popS, evB_popD, evB_frz, evB_ifs, evB_brk, evB_cnt, evB_ret, evB_ret0, evB_dead, evO_one, evI_one, evTs_nil, evTs_one, evB_rse0, evAnd_1, evOr_1, evTand_1, evTor_1, evAnd_2, evOr_2, evTand_2, evTor_2, rb_ok, rb_exc, rb_bad, oo_some, get_0, get_1, get_2, get_3, get_4, get_5, get_6, get_7, get_8, get_9, get_10, get_11, get_12, get_13, get_14, get_15, get_16, get_17, varP_v, varP_o, varS_v, if_true, if_false, Bool.false_eq_true, asgP_0, asgP_1, asgP_2, asgP_3, asgP_4, asgP_5, asgP_6, asgP_7, asgP_8, asgP_9, asgP_10, asgP_11, asgP_12, asgP_13, asgP_14, asgP_15, asgP_16, asgP_17, List.map_cons, List.map_nil, List.length_cons, List.length_nil, Nat.reduceAdd, Nat.reduceSub, List.replicate_succ, List.replicate_zero, List.cons_append, List.nil_append, Option.map_some, isNone, isi_bl, a1, a2, a4, a5, a7, a8, c1, c2, c3, c4, c5, c6, c7, c8, c9, Bool.or_false, Bool.or_true, Bool.false_or, Bool.true_or, cm_ne, eqD_bl, cm_eq, beq_self_eq_true, Bool.not_true]
  | int i =>
    refine call_ret (by simp) ?_
    unfold b__law_same
    simp only [evE_var, evE_non, evE_bl, evE_int, evE_str, evE_glo, evE_fnv, evE_bin, evE_neg, evE_cmp, evE_cmp2, evE_isN, evE_notN, evE_and, evE_or, evE_not, evE_ife, evE_tup, evE_lst, evE_dicE, evE_call, evE_callv, evE_blt, evE_isi, evE_meth, evE_ix, evE_sl, evE_rev, evE_dpop, evE_dlen, evE_lrev, evT_not, evT_and, evT_or, evT_cmp, evT_cmp2, evT_isN, evT_notN, evT_call, evT_blt, evT_isi, evT_var, evT_ix, evL_nil, evL_cons, evL_scons, evLp_nil, evLp_cons, evO_nil, evI_rng, evI_enum, evI_zip, evI_items, evI_vals, evB_done, evB_ex, evB_asg, evB_own, evB_par, evB_par3, evB_aug, evB_app, evB_ext, evB_setI, evB_augI, evB_popS, evB_popD, evB_frz, evB_ifs, evB_brk, evB_cnt, evB_ret, evB_ret0, evB_dead, evO_one, evI_one, evTs_nil, evTs_one, evB_rse0, evAnd_1, evOr_1, evTand_1, evTor_1, evAnd_2, evOr_2, evTand_2, evTor_2, rb_ok, rb_exc, rb_bad, oo_some, get_0, get_1, get_2, get_3, get_4, get_5, get_6, get_7, get_8, get_9, get_10, get_11, get_12, get_13, get_14, get_15, get_16, get_17, varP_v, varP_o, varS_v, if_true, if_false, Bool.false_eq_true, asgP_0, asgP_1, asgP_2, asgP_3, asgP_4, asgP_5, asgP_6, asgP_7, asgP_8, asgP_9, asgP_10, asgP_11, asgP_12, asgP_13, asgP_14, asgP_15, asgP_16, asgP_17, List.map_cons, List.map_nil, List.length_cons, List.length_nil, Nat.reduceAdd, Nat.reduceSub, List.replicate_succ, List.replicate_zero, List.cons_append, List.nil_append, Option.map_some, isNone, isi_int, a1, a2, a4, a5, a7, a8, c1, c2, c3, c4, c5, c6, c7, c8, c9, Bool.or_false, Bool.or_true, Bool.false_or, Bool.true_or, cm_ne, eqD_bl, eqD_int, cm_eq, beq_self_eq_true, Bool.not_true]
  | str s =>
    have hs := eqD_str s s h h
    refine call_ret (by simp) ?_
    unfold b__law_same
    simp only [evE_var, evE_non, evE_bl, evE_int, evE_str, evE_glo, evE_fnv, evE_bin, evE_neg, evE_cmp, evE_cmp2, evE_isN, evE_notN, evE_and, evE_or, evE_not, evE_ife, evE_tup, evE_lst, evE_dicE, evE_call, evE_callv, evE_blt, evE_isi, evE_meth, evE_ix, evE_sl, evE_rev, evE_dpop, evE_dlen, evE_lrev, evT_not, evT_and, evT_or, evT_cmp, evT_cmp2, evT_isN, evT_notN, evT_call, evT_blt, evT_isi, evT_var, evT_ix, evL_nil, evL_cons, evL_scons, evLp_nil, evLp_cons, evO_nil, evI_rng, evI_enum, evI_zip, evI_items, evI_vals, evB_done, evB_ex, evB_asg, evB_own, evB_par, evB_par3, evB_aug, evB_app, evB_ext, evB_setI, evB_augI, evB_popS, evB_popD, evB_frz, evB_ifs, evB_brk, evB_cnt, evB_ret, evB_ret0, evB_dead, evO_one, evI_one, evTs_nil, evTs_one, evB_rse0, evAnd_1, evOr_1, evTand_1, evTor_1, evAnd_2, evOr_2, evTand_2, evTor_2, rb_ok, rb_exc, rb_bad, oo_some, get_0, get_1, get_2, get_3, get_4, get_5, get_6, get_7, get_8, get_9, get_10, get_11, get_12, get_13, get_14, get_15, get_16, get_17, varP_v, varP_o, varS_v, if_true, if_false, Bool.false_eq_true, asgP_0, asgP_1, asgP_2, asgP_3, asgP_4, asgP_5, asgP_6, asgP_7, asgP_8, asgP_9, asgP_10, asgP_11, asgP_12, asgP_13, asgP_14, asgP_15, asgP_16, asgP_17, List.map_cons, List.map_nil, List.length_cons, List.length_nil, Nat.reduceAdd, Nat.reduceSub, List.replicate_succ, List.replicate_zero, List.cons_append, List.nil_append, Option.map_some, isNone, isi_str, a3, a6, a9, c1, c2, c3, c4, c5, c6, c7, c8, c9, Bool.or_false, Bool.or_true, Bool.false_or, Bool.true_or, cm_ne, eqD_bl, hs, cm_eq, beq_self_eq_true, Bool.not_true]
  | _ => exact h.elim
theorem same_ok : ∀ (n j : Nat) (x : D), Good n x → ∀ dr, callD (pr.at (j + n)) 4 b__law_same [x, x] dr = .ok (.bl true) dr := by
  intro n
  obtain ⟨t1, t2, t3, t4⟩ := ty3
  induction n with
  | zero => exact fun j x hx dr => same_sc j x hx dr
  | succ n ih =>
    intro j x hx dr
    show callD (pr.at (j + n + 1)) 4 b__law_same [x, x] dr = _
    cases x with
    | non => exact same_sc _ .non trivial dr
    | bl b => exact same_sc _ (.bl b) trivial dr
    | int i => exact same_sc _ (.int i) trivial dr
    | str s => exact same_sc _ (.str s) hx dr
    | tup ds =>
      obtain ⟨hl, hd⟩ := hx
      obtain ⟨env', he⟩ := same_row (j + n) (.tup ds) (ds := ds) (fun _ => rfl) hl (fun d hm dr => ih j d (hd d hm) dr) .no .no dr
      have hrg : evI (pr.at (j + n + 1)) (.rng (.cons (.blt .len (.cons (.var 1) .nil)) .nil)) false [.val (.tup ds), .val (.tup ds), .no, .no] dr = .ok ((List.range ds.length).map fun (k : Nat) => D.int (k : Int)) dr := ev_rng1 (by omega) (by simp only [evE_var, evE_non, evE_bl, evE_int, evE_str, evE_glo, evE_fnv, evE_bin, evE_neg, evE_cmp, evE_cmp2, evE_isN, evE_notN, evE_and, evE_or, evE_not, evE_ife, evE_tup, evE_lst, evE_dicE, evE_call, evE_callv, evE_blt, evE_isi, evE_meth, evE_ix, evE_sl, evE_rev, evE_dpop, evE_dlen, evE_lrev, evT_not, evT_and, evT_or, evT_cmp, evT_cmp2, evT_isN, evT_notN, evT_call, evT_blt, evT_isi, evT_var, evT_ix, evL_nil, evL_cons, evL_scons, evLp_nil, evLp_cons, evO_nil, evI_rng, evI_enum, evI_zip, evI_items, evI_vals, evB_done, evB_ex, evB_asg, evB_own, evB_par, evB_par3, evB_aug, evB_app, evB_ext, evB_setI, evB_augI, evB_popS, evB_popD, evB_frz, evB_ifs, evB_brk, evB_cnt, evB_ret, evB_ret0, evB_dead, evO_one, evI_one, evTs_nil, evTs_one, evB_rse0, evAnd_1, evOr_1, evTand_1, evTor_1, evAnd_2, evOr_2, evTand_2, evTor_2, rb_ok, rb_exc, rb_bad, oo_some, get_0, get_1, get_2, get_3, get_4, get_5, get_6, get_7, get_8, get_9, get_10, get_11, get_12, get_13, get_14, get_15, get_16, get_17, varP_v, varP_o, varS_v, if_true, if_false, Bool.false_eq_true, asgP_0, asgP_1, asgP_2, asgP_3, asgP_4, asgP_5, asgP_6, asgP_7, asgP_8, asgP_9, asgP_10, asgP_11, asgP_12, asgP_13, asgP_14, asgP_15, asgP_16, asgP_17, List.map_cons, List.map_nil, List.length_cons, List.length_nil, Nat.reduceAdd, Nat.reduceSub, List.replicate_succ, List.replicate_zero, List.cons_append, List.nil_append, Option.map_some, bl_len_tup])
      have hfor : evB (pr.at (j + n + 1)) (.for_ (.nm 2) (.rng (.cons (.blt .len (.cons (.var 1) .nil)) .nil)) (.ifs (.not (.call "_law_same" (.cons (.ix (.var 0) (.var 2)) (.cons (.ix (.var 1) (.var 2)) .nil)))) (.ret (.bl false)) .done .done) (.ret (.bl true))) [.val (.tup ds), .val (.tup ds), .no, .no] dr = .ok (.rt (.bl true)) dr := by
        rw [ev_for_nx hrg he]
        simp only [evE_var, evE_non, evE_bl, evE_int, evE_str, evE_glo, evE_fnv, evE_bin, evE_neg, evE_cmp, evE_cmp2, evE_isN, evE_notN, evE_and, evE_or, evE_not, evE_ife, evE_tup, evE_lst, evE_dicE, evE_call, evE_callv, evE_blt, evE_isi, evE_meth, evE_ix, evE_sl, evE_rev, evE_dpop, evE_dlen, evE_lrev, evT_not, evT_and, evT_or, evT_cmp, evT_cmp2, evT_isN, evT_notN, evT_call, evT_blt, evT_isi, evT_var, evT_ix, evL_nil, evL_cons, evL_scons, evLp_nil, evLp_cons, evO_nil, evI_rng, evI_enum, evI_zip, evI_items, evI_vals, evB_done, evB_ex, evB_asg, evB_own, evB_par, evB_par3, evB_aug, evB_app, evB_ext, evB_setI, evB_augI, evB_popS, evB_popD, evB_frz, evB_ifs, evB_brk, evB_cnt, evB_ret, evB_ret0, evB_dead, evO_one, evI_one, evTs_nil, evTs_one, evB_rse0, evAnd_1, evOr_1, evTand_1, evTor_1, evAnd_2, evOr_2, evTand_2, evTor_2, rb_ok, rb_exc, rb_bad, oo_some, get_0, get_1, get_2, get_3, get_4, get_5, get_6, get_7, get_8, get_9, get_10, get_11, get_12, get_13, get_14, get_15, get_16, get_17, varP_v, varP_o, varS_v, if_true, if_false, Bool.false_eq_true, asgP_0, asgP_1, asgP_2, asgP_3, asgP_4, asgP_5, asgP_6, asgP_7, asgP_8, asgP_9, asgP_10, asgP_11, asgP_12, asgP_13, asgP_14, asgP_15, asgP_16, asgP_17, List.map_cons, List.map_nil, List.length_cons, List.length_nil, Nat.reduceAdd, Nat.reduceSub, List.replicate_succ, List.replicate_zero, List.cons_append, List.nil_append, Option.map_some]
      refine call_ret (by simp) ?_
      unfold b__law_same
      simp only [evE_var, evE_non, evE_bl, evE_int, evE_str, evE_glo, evE_fnv, evE_bin, evE_neg, evE_cmp, evE_cmp2, evE_isN, evE_notN, evE_and, evE_or, evE_not, evE_ife, evE_tup, evE_lst, evE_dicE, evE_call, evE_callv, evE_blt, evE_isi, evE_meth, evE_ix, evE_sl, evE_rev, evE_dpop, evE_dlen, evE_lrev, evT_not, evT_and, evT_or, evT_cmp, evT_cmp2, evT_isN, evT_notN, evT_call, evT_blt, evT_isi, evT_var, evT_ix, evL_nil, evL_cons, evL_scons, evLp_nil, evLp_cons, evO_nil, evI_rng, evI_enum, evI_zip, evI_items, evI_vals, evB_done, evB_ex, evB_asg, evB_own, evB_par, evB_par3, evB_aug, evB_app, evB_ext, evB_setI, evB_augI, evB_popS, evB_popD, evB_frz, evB_ifs, evB_brk, evB_cnt, evB_ret, evB_ret0, evB_dead, evO_one, evI_one, evTs_nil, evTs_one, evB_rse0, evAnd_1, evOr_1, evTand_1, evTor_1, evAnd_2, evOr_2, evTand_2, evTor_2, rb_ok, rb_exc, rb_bad, oo_some, get_0, get_1, get_2, get_3, get_4, get_5, get_6, get_7, get_8, get_9, get_10, get_11, get_12, get_13, get_14, get_15, get_16, get_17, varP_v, varP_o, varS_v, if_true, if_false, Bool.false_eq_true, asgP_0, asgP_1, asgP_2, asgP_3, asgP_4, asgP_5, asgP_6, asgP_7, asgP_8, asgP_9, asgP_10, asgP_11, asgP_12, asgP_13, asgP_14, asgP_15, asgP_16, asgP_17, List.map_cons, List.map_nil, List.length_cons, List.length_nil, Nat.reduceAdd, Nat.reduceSub, List.replicate_succ, List.replicate_zero, List.cons_append, List.nil_append, Option.map_some, isNone, isi_tup, t1, t2, t3, t4, Bool.or_false, Bool.or_true, Bool.false_or, Bool.true_or, cm_ne, eqD_bl, beq_self_eq_true, Bool.not_true, bl_len_tup, eqD_int, hfor]
    | lst ds =>
      obtain ⟨hl, hd⟩ := hx
      obtain ⟨env', he⟩ := same_row (j + n) (.lst ds) (ds := ds) (fun _ => rfl) hl (fun d hm dr => ih j d (hd d hm) dr) .no .no dr
      have hrg : evI (pr.at (j + n + 1)) (.rng (.cons (.blt .len (.cons (.var 1) .nil)) .nil)) false [.val (.lst ds), .val (.lst ds), .no, .no] dr = .ok ((List.range ds.length).map fun (k : Nat) => D.int (k : Int)) dr := ev_rng1 (by omega) (by simp only [evE_var, evE_non, evE_bl, evE_int, evE_str, evE_glo, evE_fnv, evE_bin, evE_neg, evE_cmp, evE_cmp2, evE_isN, evE_notN, evE_and, evE_or, evE_not, evE_ife, evE_tup, evE_lst, evE_dicE, evE_call, evE_callv, evE_blt, evE_isi, evE_meth, evE_ix, evE_sl, evE_rev, evE_dpop, evE_dlen, evE_lrev, evT_not, evT_and, evT_or, evT_cmp, evT_cmp2, evT_isN, evT_notN, evT_call, evT_blt, evT_isi, evT_var, evT_ix, evL_nil, evL_cons, evL_scons, evLp_nil, evLp_cons, evO_nil, evI_rng, evI_enum, evI_zip, evI_items, evI_vals, evB_done, evB_ex, evB_asg, evB_own, evB_par, evB_par3, evB_aug, evB_app, evB_ext, evB_setI, evB_augI, evB_popS, evB_popD, evB_frz, evB_ifs, evB_brk, evB_cnt, evB_ret, evB_ret0, evB_dead, evO_one, evI_one, evTs_nil, evTs_one, evB_rse0, evAnd_1, evOr_1, evTand_1, evTor_1, evAnd_2, evOr_2, evTand_2, evTor_2, rb_ok, rb_exc, rb_bad, oo_some, get_0, get_1, get_2, get_3, get_4, get_5, get_6, get_7, get_8, get_9, get_10, get_11, get_12, get_13, get_14, get_15, get_16, get_17, varP_v, varP_o, varS_v, if_true, if_false, Bool.false_eq_true, asgP_0, asgP_1, asgP_2, asgP_3, asgP_4, asgP_5, asgP_6, asgP_7, asgP_8, asgP_9, asgP_10, asgP_11, asgP_12, asgP_13, asgP_14, asgP_15, asgP_16, asgP_17, List.map_cons, List.map_nil, List.length_cons, List.length_nil, Nat.reduceAdd, Nat.reduceSub, List.replicate_succ, List.replicate_zero, List.cons_append, List.nil_append, Option.map_some, bl_len_lst])
      have hfor : evB (pr.at (j + n + 1)) (.for_ (.nm 2) (.rng (.cons (.blt .len (.cons (.var 1) .nil)) .nil)) (.ifs (.not (.call "_law_same" (.cons (.ix (.var 0) (.var 2)) (.cons (.ix (.var 1) (.var 2)) .nil)))) (.ret (.bl false)) .done .done) (.ret (.bl true))) [.val (.lst ds), .val (.lst ds), .no, .no] dr = .ok (.rt (.bl true)) dr := by
        rw [ev_for_nx hrg he]
        simp only [evE_var, evE_non, evE_bl, evE_int, evE_str, evE_glo, evE_fnv, evE_bin, evE_neg, evE_cmp, evE_cmp2, evE_isN, evE_notN, evE_and, evE_or, evE_not, evE_ife, evE_tup, evE_lst, evE_dicE, evE_call, evE_callv, evE_blt, evE_isi, evE_meth, evE_ix, evE_sl, evE_rev, evE_dpop, evE_dlen, evE_lrev, evT_not, evT_and, evT_or, evT_cmp, evT_cmp2, evT_isN, evT_notN, evT_call, evT_blt, evT_isi, evT_var, evT_ix, evL_nil, evL_cons, evL_scons, evLp_nil, evLp_cons, evO_nil, evI_rng, evI_enum, evI_zip, evI_items, evI_vals, evB_done, evB_ex, evB_asg, evB_own, evB_par, evB_par3, evB_aug, evB_app, evB_ext, evB_setI, evB_augI, evB_popS, evB_popD, evB_frz, evB_ifs, evB_brk, evB_cnt, evB_ret, evB_ret0, evB_dead, evO_one, evI_one, evTs_nil, evTs_one, evB_rse0, evAnd_1, evOr_1, evTand_1, evTor_1, evAnd_2, evOr_2, evTand_2, evTor_2, rb_ok, rb_exc, rb_bad, oo_some, get_0, get_1, get_2, get_3, get_4, get_5, get_6, get_7, get_8, get_9, get_10, get_11, get_12, get_13, get_14, get_15, get_16, get_17, varP_v, varP_o, varS_v, if_true, if_false, Bool.false_eq_true, asgP_0, asgP_1, asgP_2, asgP_3, asgP_4, asgP_5, asgP_6, asgP_7, asgP_8, asgP_9, asgP_10, asgP_11, asgP_12, asgP_13, asgP_14, asgP_15, asgP_16, asgP_17, List.map_cons, List.map_nil, List.length_cons, List.length_nil, Nat.reduceAdd, Nat.reduceSub, List.replicate_succ, List.replicate_zero, List.cons_append, List.nil_append, Option.map_some]
      refine call_ret (by simp) ?_
      unfold b__law_same
      simp only [evE_var, evE_non, evE_bl, evE_int, evE_str, evE_glo, evE_fnv, evE_bin, evE_neg, evE_cmp, evE_cmp2, evE_isN, evE_notN, evE_and, evE_or, evE_not, evE_ife, evE_tup, evE_lst, evE_dicE, evE_call, evE_callv, evE_blt, evE_isi, evE_meth, evE_ix, evE_sl, evE_rev, evE_dpop, evE_dlen, evE_lrev, evT_not, evT_and, evT_or, evT_cmp, evT_cmp2, evT_isN, evT_notN, evT_call, evT_blt, evT_isi, evT_var, evT_ix, evL_nil, evL_cons, evL_scons, evLp_nil, evLp_cons, evO_nil, evI_rng, evI_enum, evI_zip, evI_items, evI_vals, evB_done, evB_ex, evB_asg, evB_own, evB_par, evB_par3, evB_aug, evB_app, evB_ext, evB_setI, evB_augI, evB_popS, evB_popD, evB_frz, evB_ifs, evB_brk, evB_cnt, evB_ret, evB_ret0, evB_dead, evO_one, evI_one, evTs_nil, evTs_one, evB_rse0, evAnd_1, evOr_1, evTand_1, evTor_1, evAnd_2, evOr_2, evTand_2, evTor_2, rb_ok, rb_exc, rb_bad, oo_some, get_0, get_1, get_2, get_3, get_4, get_5, get_6, get_7, get_8, get_9, get_10, get_11, get_12, get_13, get_14, get_15, get_16, get_17, varP_v, varP_o, varS_v, if_true, if_false, Bool.false_eq_true, asgP_0, asgP_1, asgP_2, asgP_3, asgP_4, asgP_5, asgP_6, asgP_7, asgP_8, asgP_9, asgP_10, asgP_11, asgP_12, asgP_13, asgP_14, asgP_15, asgP_16, asgP_17, List.map_cons, List.map_nil, List.length_cons, List.length_nil, Nat.reduceAdd, Nat.reduceSub, List.replicate_succ, List.replicate_zero, List.cons_append, List.nil_append, Option.map_some, isNone, isi_lst, t1, t2, t3, t4, Bool.or_false, Bool.or_true, Bool.false_or, Bool.true_or, cm_ne, eqD_bl, beq_self_eq_true, Bool.not_true, bl_len_lst, eqD_int, hfor]
    | _ => exact hx.elim
/-! ### told -/
def FL : D := .lst [.bl true, .bl false, .bl false, .bl false, .bl false]
theorem sub_nr (j : Nat) : (pr.at j).sub "NotRight" "TuneError" = some true := by
  rw [Pr.at_sub]
  kernel_rfl
theorem flg_nr (j : Nat) : (pr.at j).flg "_law_flags" "NotRight" = some FL := by
  rw [Pr.at_flg]
  kernel_rfl
theorem told_rows (j : Nat) {w : Nat} {A : List Str} (h : Roll w A) (tw : Bool) {m : Nat} (hm : m ≤ 5000) (dr : List Int) : callD (pr.at (j + 4)) 5 b__law_told [.int 0, .tup (A.map .str), .bl tw, .int m] dr = .ok (.tup ((strip (whole A tw) m).map .str)) dr := by
  refine call_ret (by simp) (ev_try_ok ?_)
  simp only [evE_var, evE_non, evE_bl, evE_int, evE_str, evE_glo, evE_fnv, evE_bin, evE_neg, evE_cmp, evE_cmp2, evE_isN, evE_notN, evE_and, evE_or, evE_not, evE_ife, evE_tup, evE_lst, evE_dicE, evE_call, evE_callv, evE_blt, evE_isi, evE_meth, evE_ix, evE_sl, evE_rev, evE_dpop, evE_dlen, evE_lrev, evT_not, evT_and, evT_or, evT_cmp, evT_cmp2, evT_isN, evT_notN, evT_call, evT_blt, evT_isi, evT_var, evT_ix, evL_nil, evL_cons, evL_scons, evLp_nil, evLp_cons, evO_nil, evI_rng, evI_enum, evI_zip, evI_items, evI_vals, evB_done, evB_ex, evB_asg, evB_own, evB_par, evB_par3, evB_aug, evB_app, evB_ext, evB_setI, evB_augI, evB_popS, evB_popD, evB_frz, evB_ifs, evB_brk, evB_cnt, evB_ret, evB_ret0, evB_dead, evO_one, evI_one, evTs_nil, evTs_one, evB_rse0, evAnd_1, evOr_1, evTand_1, evTor_1, evAnd_2, evOr_2, evTand_2, evTor_2, rb_ok, rb_exc, rb_bad, oo_some, get_0, get_1, get_2, get_3, get_4, get_5, get_6, get_7, get_8, get_9, get_10, get_11, get_12, get_13, get_14, get_15, get_16, get_17, varP_v, varP_o, varS_v, if_true, if_false, Bool.false_eq_true, asgP_0, asgP_1, asgP_2, asgP_3, asgP_4, asgP_5, asgP_6, asgP_7, asgP_8, asgP_9, asgP_10, asgP_11, asgP_12, asgP_13, asgP_14, asgP_15, asgP_16, asgP_17, List.map_cons, List.map_nil, List.length_cons, List.length_nil, Nat.reduceAdd, Nat.reduceSub, List.replicate_succ, List.replicate_zero, List.cons_append, List.nil_append, Option.map_some, cm_eq, eqD_int, beq_self_eq_true, f_strip_rows, strip_rows_ok j h tw hm]
theorem told_per (j : Nat) {w : Nat} {A : List Str} (h : Roll w A) (tw : Bool) (x : D) (dr : List Int) : callD (pr.at (j + 4)) 5 b__law_told [.int 1, .tup (A.map .str), .bl tw, x] dr = .ok (.int (period (whole A tw))) dr := by
  refine call_ret (by simp) (ev_try_ok ?_)
  simp only [evE_var, evE_non, evE_bl, evE_int, evE_str, evE_glo, evE_fnv, evE_bin, evE_neg, evE_cmp, evE_cmp2, evE_isN, evE_notN, evE_and, evE_or, evE_not, evE_ife, evE_tup, evE_lst, evE_dicE, evE_call, evE_callv, evE_blt, evE_isi, evE_meth, evE_ix, evE_sl, evE_rev, evE_dpop, evE_dlen, evE_lrev, evT_not, evT_and, evT_or, evT_cmp, evT_cmp2, evT_isN, evT_notN, evT_call, evT_blt, evT_isi, evT_var, evT_ix, evL_nil, evL_cons, evL_scons, evLp_nil, evLp_cons, evO_nil, evI_rng, evI_enum, evI_zip, evI_items, evI_vals, evB_done, evB_ex, evB_asg, evB_own, evB_par, evB_par3, evB_aug, evB_app, evB_ext, evB_setI, evB_augI, evB_popS, evB_popD, evB_frz, evB_ifs, evB_brk, evB_cnt, evB_ret, evB_ret0, evB_dead, evO_one, evI_one, evTs_nil, evTs_one, evB_rse0, evAnd_1, evOr_1, evTand_1, evTor_1, evAnd_2, evOr_2, evTand_2, evTor_2, rb_ok, rb_exc, rb_bad, oo_some, get_0, get_1, get_2, get_3, get_4, get_5, get_6, get_7, get_8, get_9, get_10, get_11, get_12, get_13, get_14, get_15, get_16, get_17, varP_v, varP_o, varS_v, if_true, if_false, Bool.false_eq_true, asgP_0, asgP_1, asgP_2, asgP_3, asgP_4, asgP_5, asgP_6, asgP_7, asgP_8, asgP_9, asgP_10, asgP_11, asgP_12, asgP_13, asgP_14, asgP_15, asgP_16, asgP_17, List.map_cons, List.map_nil, List.length_cons, List.length_nil, Nat.reduceAdd, Nat.reduceSub, List.replicate_succ, List.replicate_zero, List.cons_append, List.nil_append, Option.map_some, cm_eq, eqD_int, show ((1 : Int) == 0) = false from rfl, f_strip_period, strip_period_ok j h tw]
/-- not a truth value -/
def NB (x : D) : Prop := isiD .bool x = some false
theorem rows_nb (j : Nat) {w : Nat} {A : List Str} (h : Roll w A) {x : D} (hx : NB x) (m : D) (dr : List Int) : callD (pr.at (j + 3)) 5 b_strip_rows [.tup (A.map .str), x, m] dr = .exc ⟨"NotRight", none⟩ dr := by
  have hx : isiD .bool x = some false := hx
  refine call_exc (by simp) ?_
  unfold b_strip_rows
  simp only [evE_var, evE_non, evE_bl, evE_int, evE_str, evE_glo, evE_fnv, evE_bin, evE_neg, evE_cmp, evE_cmp2, evE_isN, evE_notN, evE_and, evE_or, evE_not, evE_ife, evE_tup, evE_lst, evE_dicE, evE_call, evE_callv, evE_blt, evE_isi, evE_meth, evE_ix, evE_sl, evE_rev, evE_dpop, evE_dlen, evE_lrev, evT_not, evT_and, evT_or, evT_cmp, evT_cmp2, evT_isN, evT_notN, evT_call, evT_blt, evT_isi, evT_var, evT_ix, evL_nil, evL_cons, evL_scons, evLp_nil, evLp_cons, evO_nil, evI_rng, evI_enum, evI_zip, evI_items, evI_vals, evB_done, evB_ex, evB_asg, evB_own, evB_par, evB_par3, evB_aug, evB_app, evB_ext, evB_setI, evB_augI, evB_popS, evB_popD, evB_frz, evB_ifs, evB_brk, evB_cnt, evB_ret, evB_ret0, evB_dead, evO_one, evI_one, evTs_nil, evTs_one, evB_rse0, evAnd_1, evOr_1, evTand_1, evTor_1, evAnd_2, evOr_2, evTand_2, evTor_2, rb_ok, rb_exc, rb_bad, oo_some, get_0, get_1, get_2, get_3, get_4, get_5, get_6, get_7, get_8, get_9, get_10, get_11, get_12, get_13, get_14, get_15, get_16, get_17, varP_v, varP_o, varS_v, if_true, if_false, Bool.false_eq_true, asgP_0, asgP_1, asgP_2, asgP_3, asgP_4, asgP_5, asgP_6, asgP_7, asgP_8, asgP_9, asgP_10, asgP_11, asgP_12, asgP_13, asgP_14, asgP_15, asgP_16, asgP_17, List.map_cons, List.map_nil, List.length_cons, List.length_nil, Nat.reduceAdd, Nat.reduceSub, List.replicate_succ, List.replicate_zero, List.cons_append, List.nil_append, Option.map_some, f_check_roll, check_roll_ok j h, hx, f_check, check_f]
theorem per_nb (j : Nat) {w : Nat} {A : List Str} (h : Roll w A) {x : D} (hx : NB x) (dr : List Int) : callD (pr.at (j + 3)) 5 b_strip_period [.tup (A.map .str), x] dr = .exc ⟨"NotRight", none⟩ dr := by
  have hx : isiD .bool x = some false := hx
  refine call_exc (by simp) ?_
  unfold b_strip_period
  simp only [evE_var, evE_non, evE_bl, evE_int, evE_str, evE_glo, evE_fnv, evE_bin, evE_neg, evE_cmp, evE_cmp2, evE_isN, evE_notN, evE_and, evE_or, evE_not, evE_ife, evE_tup, evE_lst, evE_dicE, evE_call, evE_callv, evE_blt, evE_isi, evE_meth, evE_ix, evE_sl, evE_rev, evE_dpop, evE_dlen, evE_lrev, evT_not, evT_and, evT_or, evT_cmp, evT_cmp2, evT_isN, evT_notN, evT_call, evT_blt, evT_isi, evT_var, evT_ix, evL_nil, evL_cons, evL_scons, evLp_nil, evLp_cons, evO_nil, evI_rng, evI_enum, evI_zip, evI_items, evI_vals, evB_done, evB_ex, evB_asg, evB_own, evB_par, evB_par3, evB_aug, evB_app, evB_ext, evB_setI, evB_augI, evB_popS, evB_popD, evB_frz, evB_ifs, evB_brk, evB_cnt, evB_ret, evB_ret0, evB_dead, evO_one, evI_one, evTs_nil, evTs_one, evB_rse0, evAnd_1, evOr_1, evTand_1, evTor_1, evAnd_2, evOr_2, evTand_2, evTor_2, rb_ok, rb_exc, rb_bad, oo_some, get_0, get_1, get_2, get_3, get_4, get_5, get_6, get_7, get_8, get_9, get_10, get_11, get_12, get_13, get_14, get_15, get_16, get_17, varP_v, varP_o, varS_v, if_true, if_false, Bool.false_eq_true, asgP_0, asgP_1, asgP_2, asgP_3, asgP_4, asgP_5, asgP_6, asgP_7, asgP_8, asgP_9, asgP_10, asgP_11, asgP_12, asgP_13, asgP_14, asgP_15, asgP_16, asgP_17, List.map_cons, List.map_nil, List.length_cons, List.length_nil, Nat.reduceAdd, Nat.reduceSub, List.replicate_succ, List.replicate_zero, List.cons_append, List.nil_append, Option.map_some, f_check_roll, check_roll_ok j h, hx, f_check, check_f]
theorem rows_much (j : Nat) {w : Nat} {A : List Str} (h : Roll w A) (tw : Bool) {m : D} (hm : ∀ dr, callD (pr.at (j + 2)) 3 b_is_within [m, .int 0, .int 5000] dr = .ok (.bl false) dr) (dr : List Int) : callD (pr.at (j + 3)) 5 b_strip_rows [.tup (A.map .str), .bl tw, m] dr = .exc ⟨"NotRight", none⟩ dr := by
  refine call_exc (by simp) ?_
  unfold b_strip_rows
  simp only [evE_var, evE_non, evE_bl, evE_int, evE_str, evE_glo, evE_fnv, evE_bin, evE_neg, evE_cmp, evE_cmp2, evE_isN, evE_notN, evE_and, evE_or, evE_not, evE_ife, evE_tup, evE_lst, evE_dicE, evE_call, evE_callv, evE_blt, evE_isi, evE_meth, evE_ix, evE_sl, evE_rev, evE_dpop, evE_dlen, evE_lrev, evT_not, evT_and, evT_or, evT_cmp, evT_cmp2, evT_isN, evT_notN, evT_call, evT_blt, evT_isi, evT_var, evT_ix, evL_nil, evL_cons, evL_scons, evLp_nil, evLp_cons, evO_nil, evI_rng, evI_enum, evI_zip, evI_items, evI_vals, evB_done, evB_ex, evB_asg, evB_own, evB_par, evB_par3, evB_aug, evB_app, evB_ext, evB_setI, evB_augI, evB_popS, evB_popD, evB_frz, evB_ifs, evB_brk, evB_cnt, evB_ret, evB_ret0, evB_dead, evO_one, evI_one, evTs_nil, evTs_one, evB_rse0, evAnd_1, evOr_1, evTand_1, evTor_1, evAnd_2, evOr_2, evTand_2, evTor_2, rb_ok, rb_exc, rb_bad, oo_some, get_0, get_1, get_2, get_3, get_4, get_5, get_6, get_7, get_8, get_9, get_10, get_11, get_12, get_13, get_14, get_15, get_16, get_17, varP_v, varP_o, varS_v, if_true, if_false, Bool.false_eq_true, asgP_0, asgP_1, asgP_2, asgP_3, asgP_4, asgP_5, asgP_6, asgP_7, asgP_8, asgP_9, asgP_10, asgP_11, asgP_12, asgP_13, asgP_14, asgP_15, asgP_16, asgP_17, List.map_cons, List.map_nil, List.length_cons, List.length_nil, Nat.reduceAdd, Nat.reduceSub, List.replicate_succ, List.replicate_zero, List.cons_append, List.nil_append, Option.map_some, f_check_roll, check_roll_ok j h, isi_bl, show (Ty.bool == Ty.bool) = true from rfl, Bool.true_or, f_is_within, c_MOST_PLAYED, hm, f_check, check_f]
theorem told_nb0 (j : Nat) {w : Nat} {A : List Str} (h : Roll w A) {x : D} (hx : NB x) (m : D) (dr : List Int) : callD (pr.at (j + 4)) 5 b__law_told [.int 0, .tup (A.map .str), x, m] dr = .ok FL dr := by
  refine call_ret (by simp) (ev_try_exc (c := "NotRight") ?_ (sub_nr _) (flg_nr _))
  simp only [evE_var, evE_non, evE_bl, evE_int, evE_str, evE_glo, evE_fnv, evE_bin, evE_neg, evE_cmp, evE_cmp2, evE_isN, evE_notN, evE_and, evE_or, evE_not, evE_ife, evE_tup, evE_lst, evE_dicE, evE_call, evE_callv, evE_blt, evE_isi, evE_meth, evE_ix, evE_sl, evE_rev, evE_dpop, evE_dlen, evE_lrev, evT_not, evT_and, evT_or, evT_cmp, evT_cmp2, evT_isN, evT_notN, evT_call, evT_blt, evT_isi, evT_var, evT_ix, evL_nil, evL_cons, evL_scons, evLp_nil, evLp_cons, evO_nil, evI_rng, evI_enum, evI_zip, evI_items, evI_vals, evB_done, evB_ex, evB_asg, evB_own, evB_par, evB_par3, evB_aug, evB_app, evB_ext, evB_setI, evB_augI, evB_popS, evB_popD, evB_frz, evB_ifs, evB_brk, evB_cnt, evB_ret, evB_ret0, evB_dead, evO_one, evI_one, evTs_nil, evTs_one, evB_rse0, evAnd_1, evOr_1, evTand_1, evTor_1, evAnd_2, evOr_2, evTand_2, evTor_2, rb_ok, rb_exc, rb_bad, oo_some, get_0, get_1, get_2, get_3, get_4, get_5, get_6, get_7, get_8, get_9, get_10, get_11, get_12, get_13, get_14, get_15, get_16, get_17, varP_v, varP_o, varS_v, if_true, if_false, Bool.false_eq_true, asgP_0, asgP_1, asgP_2, asgP_3, asgP_4, asgP_5, asgP_6, asgP_7, asgP_8, asgP_9, asgP_10, asgP_11, asgP_12, asgP_13, asgP_14, asgP_15, asgP_16, asgP_17, List.map_cons, List.map_nil, List.length_cons, List.length_nil, Nat.reduceAdd, Nat.reduceSub, List.replicate_succ, List.replicate_zero, List.cons_append, List.nil_append, Option.map_some, cm_eq, eqD_int, beq_self_eq_true, f_strip_rows, rows_nb j h hx m]
theorem told_nb1 (j : Nat) {w : Nat} {A : List Str} (h : Roll w A) {x : D} (hx : NB x) (m : D) (dr : List Int) : callD (pr.at (j + 4)) 5 b__law_told [.int 1, .tup (A.map .str), x, m] dr = .ok FL dr := by
  refine call_ret (by simp) (ev_try_exc (c := "NotRight") ?_ (sub_nr _) (flg_nr _))
  simp only [evE_var, evE_non, evE_bl, evE_int, evE_str, evE_glo, evE_fnv, evE_bin, evE_neg, evE_cmp, evE_cmp2, evE_isN, evE_notN, evE_and, evE_or, evE_not, evE_ife, evE_tup, evE_lst, evE_dicE, evE_call, evE_callv, evE_blt, evE_isi, evE_meth, evE_ix, evE_sl, evE_rev, evE_dpop, evE_dlen, evE_lrev, evT_not, evT_and, evT_or, evT_cmp, evT_cmp2, evT_isN, evT_notN, evT_call, evT_blt, evT_isi, evT_var, evT_ix, evL_nil, evL_cons, evL_scons, evLp_nil, evLp_cons, evO_nil, evI_rng, evI_enum, evI_zip, evI_items, evI_vals, evB_done, evB_ex, evB_asg, evB_own, evB_par, evB_par3, evB_aug, evB_app, evB_ext, evB_setI, evB_augI, evB_popS, evB_popD, evB_frz, evB_ifs, evB_brk, evB_cnt, evB_ret, evB_ret0, evB_dead, evO_one, evI_one, evTs_nil, evTs_one, evB_rse0, evAnd_1, evOr_1, evTand_1, evTor_1, evAnd_2, evOr_2, evTand_2, evTor_2, rb_ok, rb_exc, rb_bad, oo_some, get_0, get_1, get_2, get_3, get_4, get_5, get_6, get_7, get_8, get_9, get_10, get_11, get_12, get_13, get_14, get_15, get_16, get_17, varP_v, varP_o, varS_v, if_true, if_false, Bool.false_eq_true, asgP_0, asgP_1, asgP_2, asgP_3, asgP_4, asgP_5, asgP_6, asgP_7, asgP_8, asgP_9, asgP_10, asgP_11, asgP_12, asgP_13, asgP_14, asgP_15, asgP_16, asgP_17, List.map_cons, List.map_nil, List.length_cons, List.length_nil, Nat.reduceAdd, Nat.reduceSub, List.replicate_succ, List.replicate_zero, List.cons_append, List.nil_append, Option.map_some, cm_eq, eqD_int, show ((1 : Int) == 0) = false from rfl, f_strip_period, per_nb j h hx]
theorem told_much (j : Nat) {w : Nat} {A : List Str} (h : Roll w A) (tw : Bool) {m : D} (hm : ∀ dr, callD (pr.at (j + 2)) 3 b_is_within [m, .int 0, .int 5000] dr = .ok (.bl false) dr) (dr : List Int) : callD (pr.at (j + 4)) 5 b__law_told [.int 0, .tup (A.map .str), .bl tw, m] dr = .ok FL dr := by
  refine call_ret (by simp) (ev_try_exc (c := "NotRight") ?_ (sub_nr _) (flg_nr _))
  simp only [evE_var, evE_non, evE_bl, evE_int, evE_str, evE_glo, evE_fnv, evE_bin, evE_neg, evE_cmp, evE_cmp2, evE_isN, evE_notN, evE_and, evE_or, evE_not, evE_ife, evE_tup, evE_lst, evE_dicE, evE_call, evE_callv, evE_blt, evE_isi, evE_meth, evE_ix, evE_sl, evE_rev, evE_dpop, evE_dlen, evE_lrev, evT_not, evT_and, evT_or, evT_cmp, evT_cmp2, evT_isN, evT_notN, evT_call, evT_blt, evT_isi, evT_var, evT_ix, evL_nil, evL_cons, evL_scons, evLp_nil, evLp_cons, evO_nil, evI_rng, evI_enum, evI_zip, evI_items, evI_vals, evB_done, evB_ex, evB_asg, evB_own, evB_par, evB_par3, evB_aug, evB_app, evB_ext, evB_setI, evB_augI, evB_popS, evB_popD, evB_frz, evB_ifs, evB_brk, evB_cnt, evB_ret, evB_ret0, evB_dead, evO_one, evI_one, evTs_nil, evTs_one, evB_rse0, evAnd_1, evOr_1, evTand_1, evTor_1, evAnd_2, evOr_2, evTand_2, evTor_2, rb_ok, rb_exc, rb_bad, oo_some, get_0, get_1, get_2, get_3, get_4, get_5, get_6, get_7, get_8, get_9, get_10, get_11, get_12, get_13, get_14, get_15, get_16, get_17, varP_v, varP_o, varS_v, if_true, if_false, Bool.false_eq_true, asgP_0, asgP_1, asgP_2, asgP_3, asgP_4, asgP_5, asgP_6, asgP_7, asgP_8, asgP_9, asgP_10, asgP_11, asgP_12, asgP_13, asgP_14, asgP_15, asgP_16, asgP_17, List.map_cons, List.map_nil, List.length_cons, List.length_nil, Nat.reduceAdd, Nat.reduceSub, List.replicate_succ, List.replicate_zero, List.cons_append, List.nil_append, Option.map_some, cm_eq, eqD_int, beq_self_eq_true, f_strip_rows, rows_much j h tw hm]
/-- the six that are no rolls -/
def badRolls : List D := [.non, .tup [], .tup [.str ""], .tup [.str "x"], .lst [.str "o"], .tup [.str ".", .str ".."]]
theorem told_bad0 (j : Nat) {x : D} (hx : x ∈ badRolls) (dr : List Int) : callD (pr.at (j + 5)) 5 b__law_told [.int 0, x, .bl false, .int 1] dr = .ok FL dr := by
  unfold badRolls at hx
  simp only [List.mem_cons, List.not_mem_nil, or_false] at hx
  rcases hx with rfl | rfl | rfl | rfl | rfl | rfl <;> kernel_rfl
theorem told_bad1 (j : Nat) {x : D} (hx : x ∈ badRolls) (dr : List Int) : callD (pr.at (j + 5)) 5 b__law_told [.int 1, x, .bl true, .int 0] dr = .ok FL dr := by
  unfold badRolls at hx
  simp only [List.mem_cons, List.not_mem_nil, or_false] at hx
  rcases hx with rfl | rfl | rfl | rfl | rfl | rfl <;> kernel_rfl
/-! ### glued -/
theorem turned_ok (j : Nat) {w : Nat} {A : List Str} (h : Roll w A) (dr : List Int) : callD (pr.at (j + 3)) 1 b_turned_over [.tup (A.map .str)] dr = .ok (.tup ((A.map rv).map .str)) dr := by
  refine call_ret (by simp) ?_
  unfold b_turned_over
  simp only [evE_var, evE_non, evE_bl, evE_int, evE_str, evE_glo, evE_fnv, evE_bin, evE_neg, evE_cmp, evE_cmp2, evE_isN, evE_notN, evE_and, evE_or, evE_not, evE_ife, evE_tup, evE_lst, evE_dicE, evE_call, evE_callv, evE_blt, evE_isi, evE_meth, evE_ix, evE_sl, evE_rev, evE_dpop, evE_dlen, evE_lrev, evT_not, evT_and, evT_or, evT_cmp, evT_cmp2, evT_isN, evT_notN, evT_call, evT_blt, evT_isi, evT_var, evT_ix, evL_nil, evL_cons, evL_scons, evLp_nil, evLp_cons, evO_nil, evI_rng, evI_enum, evI_zip, evI_items, evI_vals, evB_done, evB_ex, evB_asg, evB_own, evB_par, evB_par3, evB_aug, evB_app, evB_ext, evB_setI, evB_augI, evB_popS, evB_popD, evB_frz, evB_ifs, evB_brk, evB_cnt, evB_ret, evB_ret0, evB_dead, evO_one, evI_one, evTs_nil, evTs_one, evB_rse0, evAnd_1, evOr_1, evTand_1, evTor_1, evAnd_2, evOr_2, evTand_2, evTor_2, rb_ok, rb_exc, rb_bad, oo_some, get_0, get_1, get_2, get_3, get_4, get_5, get_6, get_7, get_8, get_9, get_10, get_11, get_12, get_13, get_14, get_15, get_16, get_17, varP_v, varP_o, varS_v, if_true, if_false, Bool.false_eq_true, asgP_0, asgP_1, asgP_2, asgP_3, asgP_4, asgP_5, asgP_6, asgP_7, asgP_8, asgP_9, asgP_10, asgP_11, asgP_12, asgP_13, asgP_14, asgP_15, asgP_16, asgP_17, List.map_cons, List.map_nil, List.length_cons, List.length_nil, Nat.reduceAdd, Nat.reduceSub, List.replicate_succ, List.replicate_zero, List.cons_append, List.nil_append, Option.map_some, f_check_roll, check_roll_ok j h, f_over, over_ok _ h]
theorem glued_ok (j : Nat) {w : Nat} {A B : List Str} (h : Roll w A) (h2 : Roll w B) (hl : A.length + B.length ≤ 2000) (dr : List Int) : callD (pr.at (j + 3)) 2 b_glued [.tup (A.map .str), .tup (B.map .str)] dr = .ok (.tup ((A ++ B).map .str)) dr := by
  obtain ⟨a, ha, hm⟩ := tup0 h.ne
  obtain ⟨b, hb, hm2⟩ := tup0 h2.ne
  have hr := (h.rows a hm).1
  have hr2 := (h2.rows b hm2).1
  have hz : szOk w = true := sz88 (by have := h.w2; omega)
  have hl2 : (A.length : Int) + (B.length : Int) ≤ 2000 := by omega
  refine call_ret (by simp) ?_
  unfold b_glued
  simp only [evE_var, evE_non, evE_bl, evE_int, evE_str, evE_glo, evE_fnv, evE_bin, evE_neg, evE_cmp, evE_cmp2, evE_isN, evE_notN, evE_and, evE_or, evE_not, evE_ife, evE_tup, evE_lst, evE_dicE, evE_call, evE_callv, evE_blt, evE_isi, evE_meth, evE_ix, evE_sl, evE_rev, evE_dpop, evE_dlen, evE_lrev, evT_not, evT_and, evT_or, evT_cmp, evT_cmp2, evT_isN, evT_notN, evT_call, evT_blt, evT_isi, evT_var, evT_ix, evL_nil, evL_cons, evL_scons, evLp_nil, evLp_cons, evO_nil, evI_rng, evI_enum, evI_zip, evI_items, evI_vals, evB_done, evB_ex, evB_asg, evB_own, evB_par, evB_par3, evB_aug, evB_app, evB_ext, evB_setI, evB_augI, evB_popS, evB_popD, evB_frz, evB_ifs, evB_brk, evB_cnt, evB_ret, evB_ret0, evB_dead, evO_one, evI_one, evTs_nil, evTs_one, evB_rse0, evAnd_1, evOr_1, evTand_1, evTor_1, evAnd_2, evOr_2, evTand_2, evTor_2, rb_ok, rb_exc, rb_bad, oo_some, get_0, get_1, get_2, get_3, get_4, get_5, get_6, get_7, get_8, get_9, get_10, get_11, get_12, get_13, get_14, get_15, get_16, get_17, varP_v, varP_o, varS_v, if_true, if_false, Bool.false_eq_true, asgP_0, asgP_1, asgP_2, asgP_3, asgP_4, asgP_5, asgP_6, asgP_7, asgP_8, asgP_9, asgP_10, asgP_11, asgP_12, asgP_13, asgP_14, asgP_15, asgP_16, asgP_17, List.map_cons, List.map_nil, List.length_cons, List.length_nil, Nat.reduceAdd, Nat.reduceSub, List.replicate_succ, List.replicate_zero, List.cons_append, List.nil_append, Option.map_some, f_check_roll, check_roll_ok j h, check_roll_ok j h2, ix_tup, ha, hb, bl_len_str, hr, hr2, hz, cm_eq, eqD_int, beq_self_eq_true, bl_len_tup, List.length_map, bi_add, c_MOST_ROWS, cm_le, decide_eq_true hl2, f_check, check_t]
  rw [bi_add_tup (sz_le (m := 2000) (by omega) (by simp; omega)), List.map_append]
  rfl
/-! ### rolls that the law draws -/
theorem row_app {a b : Nat} {s t : Str} (h : Row a s) (h2 : Row b t) : Row (a + b) (s ++ t) := by
  refine ⟨?_, fun c hc => ?_⟩
  · rw [← h.1, ← h2.1]
    show (s.cps ++ t.cps).size = _
    rw [Array.size_append]
    rfl
  · have hc : c ∈ (s.cps ++ t.cps).toList := hc
    rw [Array.toList_append] at hc
    rcases List.mem_append.mp hc with q | q
    · exact h.2 c q
    · exact h2.2 c q
theorem row_nil : Row 0 ("" : Str) := ⟨by decide +kernel, fun c hc => by
  have : (("" : Str)).cps.toList = [] := by decide +kernel
  rw [this] at hc
  cases hc⟩
theorem row_join : ∀ ss : List Str, (∀ s ∈ ss, Row 1 s) → Row ss.length (Str.join "" ss)
  | [], _ => row_nil
  | [x], h => h x List.mem_cons_self
  | x :: y :: r, h => by
    have ih := row_join (y :: r) fun s hs => h s (List.mem_cons_of_mem _ hs)
    have := row_app (row_app (h x List.mem_cons_self) row_nil) ih
    rw [List.length_cons, Nat.add_comm]
    exact this
theorem strs_of {ys : List D} {Q : Str → Prop} (h : ∀ y ∈ ys, ∃ s, y = .str s ∧ Q s) : ∃ ss : List Str, ys = ss.map .str ∧ ∀ s ∈ ss, Q s := by
  induction ys with
  | nil => exact ⟨[], rfl, fun _ h => nomatch h⟩
  | cons y ys ih =>
    obtain ⟨s, rfl, hs⟩ := h y List.mem_cons_self
    obtain ⟨ss, rfl, h2⟩ := ih fun z hz => h z (List.mem_cons_of_mem _ hz)
    refine ⟨s :: ss, rfl, fun z hz => ?_⟩
    rcases List.mem_cons.mp hz with rfl | hz
    · exact hs
    · exact h2 z hz
theorem strsOf_map (ss : List Str) : strsOf (ss.map .str) = some ss := by
  induction ss with
  | nil => rfl
  | cons s ss ih =>
    show (strsOf (ss.map .str)).map (s :: ·) = _
    rw [ih]
    rfl
theorem row_item (j : Nat) (e0 e1 e2 e3 e4 e5 : Sl) (h0 : e0 = .val .drw) {w : Nat} (h1 : e1 = .val (.int w)) (hw : w ≤ 6) (pk : Bool) (dr : List Int) : ∃ s dr', evE (pr.at (j + 1)) (.meth .join (.str "") (.cons (.lc (.nm 5) (.rng (.cons (.var 1) .nil)) .nil (.ix (.str ".o") (.call "_law_take" (.cons (.var 0) (.cons (.int 2) .nil))))) .nil)) pk [e0, e1, e2, e3, e4, e5] dr = .ok (.str s) dr' ∧ Row w s := by
  subst h0 h1
  obtain ⟨ys, dr', h1, h2, h3⟩ := ev_lcd (G := pr.at (j + 1)) (p := .nm 5) (it := .rng (.cons (.var 1) .nil)) (t := .nil) (e := .ix (.str ".o") (.call "_law_take" (.cons (.var 0) (.cons (.int 2) .nil)))) (pk := false) (env := [.val .drw, .val (.int w), e2, e3, e4, e5]) (dr := dr) (dr1 := dr) (P := fun y => ∃ s, y = .str s ∧ Row 1 s)
    (ev_rng1 (m := w) (by omega) (by simp only [evE_var, evE_non, evE_bl, evE_int, evE_str, evE_glo, evE_fnv, evE_bin, evE_neg, evE_cmp, evE_cmp2, evE_isN, evE_notN, evE_and, evE_or, evE_not, evE_ife, evE_tup, evE_lst, evE_dicE, evE_call, evE_callv, evE_blt, evE_isi, evE_meth, evE_ix, evE_sl, evE_rev, evE_dpop, evE_dlen, evE_lrev, evT_not, evT_and, evT_or, evT_cmp, evT_cmp2, evT_isN, evT_notN, evT_call, evT_blt, evT_isi, evT_var, evT_ix, evL_nil, evL_cons, evL_scons, evLp_nil, evLp_cons, evO_nil, evI_rng, evI_enum, evI_zip, evI_items, evI_vals, evB_done, evB_ex, evB_asg, evB_own, evB_par, evB_par3, evB_aug, evB_app, evB_ext, evB_setI, evB_augI, evB_popS, evB_popD, evB_frz, evB_ifs, evB_brk, evB_cnt, evB_ret, evB_ret0, evB_dead, evO_one, evI_one, evTs_nil, evTs_one, evB_rse0, evAnd_1, evOr_1, evTand_1, evTor_1, evAnd_2, evOr_2, evTand_2, evTor_2, rb_ok, rb_exc, rb_bad, oo_some, get_0, get_1, get_2, get_3, get_4, get_5, get_6, get_7, get_8, get_9, get_10, get_11, get_12, get_13, get_14, get_15, get_16, get_17, varP_v, varP_o, varS_v, if_true, if_false, Bool.false_eq_true, asgP_0, asgP_1, asgP_2, asgP_3, asgP_4, asgP_5, asgP_6, asgP_7, asgP_8, asgP_9, asgP_10, asgP_11, asgP_12, asgP_13, asgP_14, asgP_15, asgP_16, asgP_17, List.map_cons, List.map_nil, List.length_cons, List.length_nil, Nat.reduceAdd, Nat.reduceSub, List.replicate_succ, List.replicate_zero, List.cons_append, List.nil_append, Option.map_some])) fun d hd dr1 => by
      obtain ⟨k, dr2, ek, hk⟩ := take_ok j (b := 2) (by omega) dr1
      have hs : ∃ s, ixD (.str ".o") (.int (k : Int)) = some (.str s) ∧ Row 1 s := by
        have : k = 0 ∨ k = 1 := by omega
        rcases this with rfl | rfl
        · exact ⟨⟨#[46]⟩, by kernel_rfl, ⟨rfl, fun c hc => by simp at hc; exact .inr hc⟩⟩
        · exact ⟨⟨#[111]⟩, by kernel_rfl, ⟨rfl, fun c hc => by simp at hc; exact .inl hc⟩⟩
      obtain ⟨s, es, hs⟩ := hs
      refine ⟨.str s, dr2, ?_, s, rfl, hs⟩
      unfold lcB
      have ek : callD (pr.at j) 2 b__law_take [.drw, .int 2] dr1 = .ok (.int k) dr2 := ek
      simp only [evE_var, evE_non, evE_bl, evE_int, evE_str, evE_glo, evE_fnv, evE_bin, evE_neg, evE_cmp, evE_cmp2, evE_isN, evE_notN, evE_and, evE_or, evE_not, evE_ife, evE_tup, evE_lst, evE_dicE, evE_call, evE_callv, evE_blt, evE_isi, evE_meth, evE_ix, evE_sl, evE_rev, evE_dpop, evE_dlen, evE_lrev, evT_not, evT_and, evT_or, evT_cmp, evT_cmp2, evT_isN, evT_notN, evT_call, evT_blt, evT_isi, evT_var, evT_ix, evL_nil, evL_cons, evL_scons, evLp_nil, evLp_cons, evO_nil, evI_rng, evI_enum, evI_zip, evI_items, evI_vals, evB_done, evB_ex, evB_asg, evB_own, evB_par, evB_par3, evB_aug, evB_app, evB_ext, evB_setI, evB_augI, evB_popS, evB_popD, evB_frz, evB_ifs, evB_brk, evB_cnt, evB_ret, evB_ret0, evB_dead, evO_one, evI_one, evTs_nil, evTs_one, evB_rse0, evAnd_1, evOr_1, evTand_1, evTor_1, evAnd_2, evOr_2, evTand_2, evTor_2, rb_ok, rb_exc, rb_bad, oo_some, get_0, get_1, get_2, get_3, get_4, get_5, get_6, get_7, get_8, get_9, get_10, get_11, get_12, get_13, get_14, get_15, get_16, get_17, varP_v, varP_o, varS_v, if_true, if_false, Bool.false_eq_true, asgP_0, asgP_1, asgP_2, asgP_3, asgP_4, asgP_5, asgP_6, asgP_7, asgP_8, asgP_9, asgP_10, asgP_11, asgP_12, asgP_13, asgP_14, asgP_15, asgP_16, asgP_17, List.map_cons, List.map_nil, List.length_cons, List.length_nil, Nat.reduceAdd, Nat.reduceSub, List.replicate_succ, List.replicate_zero, List.cons_append, List.nil_append, Option.map_some, wipeE, slots, List.set_cons_zero, List.set_cons_succ, f__law_take, ek, es]
  obtain ⟨ss, rfl, hss⟩ := strs_of h3
  rw [List.length_map, List.length_map, List.length_range] at h2
  refine ⟨Str.join "" ss, dr', ?_, by rw [← h2]; exact row_join ss hss⟩
  rw [evE_meth, evE_str, rb_ok]
  show ((ofO (some (D.str "")) dr).bind _) = _
  rw [oo_some, rb_ok, evL_cons, h1, rb_ok, evL_nil, rb_ok, rb_ok]
  show ofO (match strsOf (ss.map .str) with
    | some ss => grd (decide ((ss.map (·.length)).sum + ss.length * ("" : Str).length ≤ 16777216)) (D.str (Str.join "" ss))
    | none => none) dr' = _
  rw [strsOf_map]
  dsimp only
  have hsum : ∀ ss : List Str, (∀ s ∈ ss, Row 1 s) → (ss.map (·.length)).sum = ss.length := by
    intro ss
    induction ss with
    | nil => intro _; rfl
    | cons s ss ih =>
      intro h
      rw [List.map_cons, List.sum_cons, ih fun z hz => h z (List.mem_cons_of_mem _ hz), (h s List.mem_cons_self).1, List.length_cons, Nat.add_comm]
  rw [hsum ss hss, h2, show (("" : Str).length) = 0 from row_nil.1]
  rw [decide_eq_true (by omega)]
  rfl
def tk (s : Str) (k : Nat) : Str := ⟨(s.cps.toList.take k).toArray⟩
theorem row_tk {w k : Nat} {s : Str} (h : Row w s) (hk : k ≤ w) : Row k (tk s k) := by
  refine ⟨?_, fun c hc => h.2 c (List.mem_of_mem_take (by simpa [tk] using hc))⟩
  show (s.cps.toList.take k).toArray.size = k
  have : s.cps.size = w := h.1
  simp
  omega
theorem sl_tk {w k : Nat} {s : Str} (h : Row w s) (hw : w ≤ 88) : slD (.str s) none (some (k : Int)) = some (.str (tk s k)) := by
  show grd (szOk s.length) _ = _
  rw [sz88 (by rw [h.1]; omega), cut_take]
  rfl
theorem row_rep (n : Nat) : Row n (repStr "o" n) := by
  have e : (("o" : Str)).cps.toList = [111] := by decide +kernel
  unfold repStr
  rw [e]
  refine ⟨?_, fun c hc => ?_⟩
  · show ((List.replicate n [111]).flatten).toArray.size = n
    simp
  · simp at hc
    exact .inl hc.2
def half (w : Nat) (s : Str) : Str := tk s (w / 2) ++ repStr "o" (w - 2 * (w / 2)) ++ rv (tk s (w / 2))
theorem row_half {w : Nat} {s : Str} (h : Row w s) : Row w (half w s) := by
  have := row_app (row_app (row_tk h (k := w / 2) (by omega)) (row_rep (w - 2 * (w / 2)))) (rv_row (row_tk h (k := w / 2) (by omega)))
  rw [show w / 2 + (w - 2 * (w / 2)) + w / 2 = w by omega] at this
  exact this
theorem rev_part (j : Nat) {w : Nat} {L : List Str} (hL : ∀ s ∈ L, Row w s) (hw : w ≤ 88) (e0 e1 e3 e4 e5 : Sl) (pk : Bool) (dr : List Int) : evE (pr.at j) (.lc (.nm 4) (.cons (.var 2) .nil) .nil (.rev (.var 4))) pk [e0, e1, .val (.lst (L.map .str)), e3, e4, e5] dr = .ok (.lst ((L.map rv).map .str)) dr := by
  rw [ev_lcm (fun d => match d with
    | .str s => .str (rv s)
    | d => d) (xs := L.map .str) (by simp only [evE_var, evE_non, evE_bl, evE_int, evE_str, evE_glo, evE_fnv, evE_bin, evE_neg, evE_cmp, evE_cmp2, evE_isN, evE_notN, evE_and, evE_or, evE_not, evE_ife, evE_tup, evE_lst, evE_dicE, evE_call, evE_callv, evE_blt, evE_isi, evE_meth, evE_ix, evE_sl, evE_rev, evE_dpop, evE_dlen, evE_lrev, evT_not, evT_and, evT_or, evT_cmp, evT_cmp2, evT_isN, evT_notN, evT_call, evT_blt, evT_isi, evT_var, evT_ix, evL_nil, evL_cons, evL_scons, evLp_nil, evLp_cons, evO_nil, evI_rng, evI_enum, evI_zip, evI_items, evI_vals, evB_done, evB_ex, evB_asg, evB_own, evB_par, evB_par3, evB_aug, evB_app, evB_ext, evB_setI, evB_augI, evB_popS, evB_popD, evB_frz, evB_ifs, evB_brk, evB_cnt, evB_ret, evB_ret0, evB_dead, evO_one, evI_one, evTs_nil, evTs_one, evB_rse0, evAnd_1, evOr_1, evTand_1, evTor_1, evAnd_2, evOr_2, evTand_2, evTor_2, rb_ok, rb_exc, rb_bad, oo_some, get_0, get_1, get_2, get_3, get_4, get_5, get_6, get_7, get_8, get_9, get_10, get_11, get_12, get_13, get_14, get_15, get_16, get_17, varP_v, varP_o, varS_v, if_true, if_false, Bool.false_eq_true, asgP_0, asgP_1, asgP_2, asgP_3, asgP_4, asgP_5, asgP_6, asgP_7, asgP_8, asgP_9, asgP_10, asgP_11, asgP_12, asgP_13, asgP_14, asgP_15, asgP_16, asgP_17, List.map_cons, List.map_nil, List.length_cons, List.length_nil, Nat.reduceAdd, Nat.reduceSub, List.replicate_succ, List.replicate_zero, List.cons_append, List.nil_append, Option.map_some, evI_one, it_lst]) fun d hd => ?_]
  · rw [List.map_map, List.map_map]
    rfl
  · obtain ⟨s, hs, rfl⟩ := List.mem_map.mp hd
    have hz : szOk s.length = true := sz88 (by have := (hL s hs).1; omega)
    unfold lcB
    simp only [evE_var, evE_non, evE_bl, evE_int, evE_str, evE_glo, evE_fnv, evE_bin, evE_neg, evE_cmp, evE_cmp2, evE_isN, evE_notN, evE_and, evE_or, evE_not, evE_ife, evE_tup, evE_lst, evE_dicE, evE_call, evE_callv, evE_blt, evE_isi, evE_meth, evE_ix, evE_sl, evE_rev, evE_dpop, evE_dlen, evE_lrev, evT_not, evT_and, evT_or, evT_cmp, evT_cmp2, evT_isN, evT_notN, evT_call, evT_blt, evT_isi, evT_var, evT_ix, evL_nil, evL_cons, evL_scons, evLp_nil, evLp_cons, evO_nil, evI_rng, evI_enum, evI_zip, evI_items, evI_vals, evB_done, evB_ex, evB_asg, evB_own, evB_par, evB_par3, evB_aug, evB_app, evB_ext, evB_setI, evB_augI, evB_popS, evB_popD, evB_frz, evB_ifs, evB_brk, evB_cnt, evB_ret, evB_ret0, evB_dead, evO_one, evI_one, evTs_nil, evTs_one, evB_rse0, evAnd_1, evOr_1, evTand_1, evTor_1, evAnd_2, evOr_2, evTand_2, evTor_2, rb_ok, rb_exc, rb_bad, oo_some, get_0, get_1, get_2, get_3, get_4, get_5, get_6, get_7, get_8, get_9, get_10, get_11, get_12, get_13, get_14, get_15, get_16, get_17, varP_v, varP_o, varS_v, if_true, if_false, Bool.false_eq_true, asgP_0, asgP_1, asgP_2, asgP_3, asgP_4, asgP_5, asgP_6, asgP_7, asgP_8, asgP_9, asgP_10, asgP_11, asgP_12, asgP_13, asgP_14, asgP_15, asgP_16, asgP_17, List.map_cons, List.map_nil, List.length_cons, List.length_nil, Nat.reduceAdd, Nat.reduceSub, List.replicate_succ, List.replicate_zero, List.cons_append, List.nil_append, Option.map_some, wipeE, slots, List.set_cons_zero, List.set_cons_succ, rv_str hz]
    rfl
theorem half_part (j : Nat) {w : Nat} {L : List Str} (hL : ∀ s ∈ L, Row w s) (hw : w ≤ 6) (e0 e3 e4 e5 : Sl) (pk : Bool) (dr : List Int) : evE (pr.at j) (.lc (.nm 4) (.cons (.var 2) .nil) .nil (.bin .add (.bin .add (.sl (.var 4) .nil (.cons (.bin .fdiv (.var 1) (.int 2)) .nil)) (.bin .mul (.str "o") (.blt .int (.cons (.bin .sub (.var 1) (.bin .mul (.int 2) (.bin .fdiv (.var 1) (.int 2)))) .nil)))) (.rev (.sl (.var 4) .nil (.cons (.bin .fdiv (.var 1) (.int 2)) .nil))))) pk
    [e0, .val (.int w), .val (.lst (L.map .str)), e3, e4, e5] dr = .ok (.lst ((L.map (half w)).map .str)) dr := by
  rw [ev_lcm (fun d => match d with
    | .str s => .str (half w s)
    | d => d) (xs := L.map .str) (by simp only [evE_var, evE_non, evE_bl, evE_int, evE_str, evE_glo, evE_fnv, evE_bin, evE_neg, evE_cmp, evE_cmp2, evE_isN, evE_notN, evE_and, evE_or, evE_not, evE_ife, evE_tup, evE_lst, evE_dicE, evE_call, evE_callv, evE_blt, evE_isi, evE_meth, evE_ix, evE_sl, evE_rev, evE_dpop, evE_dlen, evE_lrev, evT_not, evT_and, evT_or, evT_cmp, evT_cmp2, evT_isN, evT_notN, evT_call, evT_blt, evT_isi, evT_var, evT_ix, evL_nil, evL_cons, evL_scons, evLp_nil, evLp_cons, evO_nil, evI_rng, evI_enum, evI_zip, evI_items, evI_vals, evB_done, evB_ex, evB_asg, evB_own, evB_par, evB_par3, evB_aug, evB_app, evB_ext, evB_setI, evB_augI, evB_popS, evB_popD, evB_frz, evB_ifs, evB_brk, evB_cnt, evB_ret, evB_ret0, evB_dead, evO_one, evI_one, evTs_nil, evTs_one, evB_rse0, evAnd_1, evOr_1, evTand_1, evTor_1, evAnd_2, evOr_2, evTand_2, evTor_2, rb_ok, rb_exc, rb_bad, oo_some, get_0, get_1, get_2, get_3, get_4, get_5, get_6, get_7, get_8, get_9, get_10, get_11, get_12, get_13, get_14, get_15, get_16, get_17, varP_v, varP_o, varS_v, if_true, if_false, Bool.false_eq_true, asgP_0, asgP_1, asgP_2, asgP_3, asgP_4, asgP_5, asgP_6, asgP_7, asgP_8, asgP_9, asgP_10, asgP_11, asgP_12, asgP_13, asgP_14, asgP_15, asgP_16, asgP_17, List.map_cons, List.map_nil, List.length_cons, List.length_nil, Nat.reduceAdd, Nat.reduceSub, List.replicate_succ, List.replicate_zero, List.cons_append, List.nil_append, Option.map_some, evI_one, it_lst]) fun d hd => ?_]
  · rw [List.map_map, List.map_map]
    rfl
  · obtain ⟨s, hs, rfl⟩ := List.mem_map.mp hd
    have hr := hL s hs
    have d2 : divOk 2 = true := by decide +kernel
    have e1 : (w : Int) / 2 = ((w / 2 : Nat) : Int) := by omega
    have e2 : (w : Int) - 2 * ((w / 2 : Nat) : Int) = ((w - 2 * (w / 2) : Nat) : Int) := by omega
    have ht := row_tk hr (k := w / 2) (by omega)
    have hzt : szOk (tk s (w / 2)).length = true := sz88 (by rw [ht.1]; omega)
    have hm : binD .mul (.str "o") (.int ((w - 2 * (w / 2) : Nat) : Int)) = some (.str (repStr "o" (w - 2 * (w / 2)))) := by
      show grd (decide (-(2 ^ 63) ≤ ((w - 2 * (w / 2) : Nat) : Int) ∧ ((w - 2 * (w / 2) : Nat) : Int) < 2 ^ 63) && szOk (("o" : Str).length * (((w - 2 * (w / 2) : Nat) : Int)).toNat)) (D.str (repStr "o" (((w - 2 * (w / 2) : Nat) : Int)).toNat)) = _
      have e7 : ("o" : Str).length = 1 := by decide +kernel
      rw [decide_eq_true ⟨by omega, by omega⟩, Int.toNat_natCast, e7, sz88 (by omega)]
      rfl
    have hrep := row_rep (w - 2 * (w / 2))
    have a1 := row_app ht hrep
    unfold lcB
    simp only [evE_var, evE_non, evE_bl, evE_int, evE_str, evE_glo, evE_fnv, evE_bin, evE_neg, evE_cmp, evE_cmp2, evE_isN, evE_notN, evE_and, evE_or, evE_not, evE_ife, evE_tup, evE_lst, evE_dicE, evE_call, evE_callv, evE_blt, evE_isi, evE_meth, evE_ix, evE_sl, evE_rev, evE_dpop, evE_dlen, evE_lrev, evT_not, evT_and, evT_or, evT_cmp, evT_cmp2, evT_isN, evT_notN, evT_call, evT_blt, evT_isi, evT_var, evT_ix, evL_nil, evL_cons, evL_scons, evLp_nil, evLp_cons, evO_nil, evI_rng, evI_enum, evI_zip, evI_items, evI_vals, evB_done, evB_ex, evB_asg, evB_own, evB_par, evB_par3, evB_aug, evB_app, evB_ext, evB_setI, evB_augI, evB_popS, evB_popD, evB_frz, evB_ifs, evB_brk, evB_cnt, evB_ret, evB_ret0, evB_dead, evO_one, evI_one, evTs_nil, evTs_one, evB_rse0, evAnd_1, evOr_1, evTand_1, evTor_1, evAnd_2, evOr_2, evTand_2, evTor_2, rb_ok, rb_exc, rb_bad, oo_some, get_0, get_1, get_2, get_3, get_4, get_5, get_6, get_7, get_8, get_9, get_10, get_11, get_12, get_13, get_14, get_15, get_16, get_17, varP_v, varP_o, varS_v, if_true, if_false, Bool.false_eq_true, asgP_0, asgP_1, asgP_2, asgP_3, asgP_4, asgP_5, asgP_6, asgP_7, asgP_8, asgP_9, asgP_10, asgP_11, asgP_12, asgP_13, asgP_14, asgP_15, asgP_16, asgP_17, List.map_cons, List.map_nil, List.length_cons, List.length_nil, Nat.reduceAdd, Nat.reduceSub, List.replicate_succ, List.replicate_zero, List.cons_append, List.nil_append, Option.map_some, wipeE, slots, List.set_cons_zero, List.set_cons_succ, evO_one, evO_nil, bi_div d2, e1, sl_tk hr (k := w / 2) (by omega), bi_mul (mul2 (n := w / 2) (by omega) 2), bi_sub, e2, bl_int, hm, rv_str hzt]
    rw [bi_add_str (sz88 (by rw [ht.1, hrep.1]; omega)), oo_some, rb_ok, bi_add_str (sz88 (by
      have := (rv_row ht).1
      have h9 : (⟨(tk s (w / 2)).cps.toList.reverse.toArray⟩ : Str).length = w / 2 := this
      rw [a1.1, h9]
      omega))]
    rfl
theorem roll_ok (j : Nat) (dr : List Int) : ∃ (w : Nat) (A : List Str) (dr' : List Int), callD (pr.at (j + 2)) 6 b__law_roll [.drw] dr = .ok (.tup (A.map .str)) dr' ∧ Roll w A ∧ A.length ≤ 15 := by
  obtain ⟨k1, dr1, t1, h1⟩ := take_ok (j + 1) (b := 6) (by omega) dr
  have t1 : callD (pr.at (j + 1)) 2 b__law_take [.drw, .int 6] dr = .ok (.int k1) dr1 := t1
  obtain ⟨k2, dr2, t2, h2⟩ := take_ok (j + 1) (b := 5) (by omega) dr1
  have t2 : callD (pr.at (j + 1)) 2 b__law_take [.drw, .int 5] dr1 = .ok (.int k2) dr2 := t2
  have ew : (1 : Int) + (k1 : Int) = ((1 + k1 : Nat) : Int) := by omega
  have en : (1 : Int) + (k2 : Int) = ((1 + k2 : Nat) : Int) := by omega
  obtain ⟨ys, dr3, e3, h3, h4⟩ := ev_lcd (G := pr.at (j + 2)) (p := .nm 4) (it := .rng (.cons (.bin .add (.int 1) (.call "_law_take" (.cons (.var 0) (.cons (.int 5) .nil)))) .nil)) (t := .nil) (e := .meth .join (.str "") (.cons (.lc (.nm 5) (.rng (.cons (.var 1) .nil)) .nil (.ix (.str ".o") (.call "_law_take" (.cons (.var 0) (.cons (.int 2) .nil))))) .nil)) (pk := false)
    (env := [.val .drw, .val (.int (1 + k1 : Nat)), .no, .no, .no, .no]) (dr := dr1) (dr1 := dr2) (P := fun y => ∃ s, y = .str s ∧ Row (1 + k1) s) (ev_rng1 (m := 1 + k2) (by omega) (by simp only [evE_var, evE_non, evE_bl, evE_int, evE_str, evE_glo, evE_fnv, evE_bin, evE_neg, evE_cmp, evE_cmp2, evE_isN, evE_notN, evE_and, evE_or, evE_not, evE_ife, evE_tup, evE_lst, evE_dicE, evE_call, evE_callv, evE_blt, evE_isi, evE_meth, evE_ix, evE_sl, evE_rev, evE_dpop, evE_dlen, evE_lrev, evT_not, evT_and, evT_or, evT_cmp, evT_cmp2, evT_isN, evT_notN, evT_call, evT_blt, evT_isi, evT_var, evT_ix, evL_nil, evL_cons, evL_scons, evLp_nil, evLp_cons, evO_nil, evI_rng, evI_enum, evI_zip, evI_items, evI_vals, evB_done, evB_ex, evB_asg, evB_own, evB_par, evB_par3, evB_aug, evB_app, evB_ext, evB_setI, evB_augI, evB_popS, evB_popD, evB_frz, evB_ifs, evB_brk, evB_cnt, evB_ret, evB_ret0, evB_dead, evO_one, evI_one, evTs_nil, evTs_one, evB_rse0, evAnd_1, evOr_1, evTand_1, evTor_1, evAnd_2, evOr_2, evTand_2, evTor_2, rb_ok, rb_exc, rb_bad, oo_some, get_0, get_1, get_2, get_3, get_4, get_5, get_6, get_7, get_8, get_9, get_10, get_11, get_12, get_13, get_14, get_15, get_16, get_17, varP_v, varP_o, varS_v, if_true, if_false, Bool.false_eq_true, asgP_0, asgP_1, asgP_2, asgP_3, asgP_4, asgP_5, asgP_6, asgP_7, asgP_8, asgP_9, asgP_10, asgP_11, asgP_12, asgP_13, asgP_14, asgP_15, asgP_16, asgP_17, List.map_cons, List.map_nil, List.length_cons, List.length_nil, Nat.reduceAdd, Nat.reduceSub, List.replicate_succ, List.replicate_zero, List.cons_append, List.nil_append, Option.map_some, f__law_take, t2, bi_add, en])) fun d hd dr5 => by
      obtain ⟨s, dr6, e6, hs⟩ := row_item (j + 1) (.val .drw) (.val (.int (1 + k1 : Nat))) .no .no (.val d) .no rfl rfl (by omega) false dr5
      refine ⟨.str s, dr6, ?_, s, rfl, hs⟩
      have ea : asgP (.nm 4) d (wipeE [.val .drw, .val (.int (1 + k1 : Nat)), .no, .no, .no, .no] (slots (.nm 4))) = some [.val .drw, .val (.int (1 + k1 : Nat)), .no, .no, .val d, .no] := rfl
      unfold lcB
      rw [ea, oo_some, rb_ok, evTs_nil, rb_ok]
      dsimp only
      rw [e6, rb_ok]
  obtain ⟨L, rfl, hL⟩ := strs_of h4
  rw [List.length_map, List.length_map, List.length_range] at h3
  obtain ⟨k3, dr4, t3, h5⟩ := take_ok (j + 1) (b := 5) (by omega) dr3
  have t3 : callD (pr.at (j + 1)) 2 b__law_take [.drw, .int 5] dr3 = .ok (.int k3) dr4 := t3
  have hm : binD .add (.int 1) (.int k1) = some (.int (1 + k1 : Nat)) := by rw [bi_add, ew]
  have fin : ∀ B : List Str, (∀ s ∈ B, Row (1 + k1) s) → B ≠ [] → B.length ≤ 15 → Roll (1 + k1) B ∧ B.length ≤ 15 := fun B hB hne hl => ⟨⟨by omega, by omega, hne, by omega, hB⟩, hl⟩
  have hLn : L ≠ [] := fun e => by
    rw [e] at h3
    have : 0 = 1 + k2 := h3
    omega
  have hrv : ∀ s ∈ L.map rv, Row (1 + k1) s := fun s hs => by
    obtain ⟨t, ht, rfl⟩ := List.mem_map.mp hs
    exact rv_row (hL t ht)
  have hhf : ∀ s ∈ L.map (half (1 + k1)), Row (1 + k1) s := fun s hs => by
    obtain ⟨t, ht, rfl⟩ := List.mem_map.mp hs
    exact row_half (hL t ht)
  have key : ∃ B : List Str, callD (pr.at (j + 2)) 6 b__law_roll [.drw] dr = .ok (.tup (B.map .str)) dr4 ∧ (∀ s ∈ B, Row (1 + k1) s) ∧ B ≠ [] ∧ B.length ≤ 15 := by
    have hk : k3 = 0 ∨ k3 = 1 ∨ k3 = 2 ∨ k3 = 3 ∨ k3 = 4 := by omega
    have ap : ∀ X Y : List Str, X.length + Y.length ≤ 1000 → binD .add (.lst (X.map .str)) (.lst (Y.map .str)) = some (.lst ((X ++ Y).map .str)) := fun X Y hl => by
      rw [bi_add_lst (sz_le (m := 1000) (by omega) (by simp; omega)), List.map_append]
    rcases hk with rfl | rfl | rfl | rfl | rfl
    · refine ⟨L ++ L, ?_, fun s hs => (List.mem_append.mp hs).elim (hL s) (hL s), by simp [hLn], by simp; omega⟩
      refine call_ret (by simp) ?_
      unfold b__law_roll
      simp only [evE_var, evE_non, evE_bl, evE_int, evE_str, evE_glo, evE_fnv, evE_bin, evE_neg, evE_cmp, evE_cmp2, evE_isN, evE_notN, evE_and, evE_or, evE_not, evE_ife, evE_tup, evE_lst, evE_dicE, evE_call, evE_callv, evE_blt, evE_isi, evE_meth, evE_ix, evE_sl, evE_rev, evE_dpop, evE_dlen, evE_lrev, evT_not, evT_and, evT_or, evT_cmp, evT_cmp2, evT_isN, evT_notN, evT_call, evT_blt, evT_isi, evT_var, evT_ix, evL_nil, evL_cons, evL_scons, evLp_nil, evLp_cons, evO_nil, evI_rng, evI_enum, evI_zip, evI_items, evI_vals, evB_done, evB_ex, evB_asg, evB_own, evB_par, evB_par3, evB_aug, evB_app, evB_ext, evB_setI, evB_augI, evB_popS, evB_popD, evB_frz, evB_ifs, evB_brk, evB_cnt, evB_ret, evB_ret0, evB_dead, evO_one, evI_one, evTs_nil, evTs_one, evB_rse0, evAnd_1, evOr_1, evTand_1, evTor_1, evAnd_2, evOr_2, evTand_2, evTor_2, rb_ok, rb_exc, rb_bad, oo_some, get_0, get_1, get_2, get_3, get_4, get_5, get_6, get_7, get_8, get_9, get_10, get_11, get_12, get_13, get_14, get_15, get_16, get_17, varP_v, varP_o, varS_v, if_true, if_false, Bool.false_eq_true, asgP_0, asgP_1, asgP_2, asgP_3, asgP_4, asgP_5, asgP_6, asgP_7, asgP_8, asgP_9, asgP_10, asgP_11, asgP_12, asgP_13, asgP_14, asgP_15, asgP_16, asgP_17, List.map_cons, List.map_nil, List.length_cons, List.length_nil, Nat.reduceAdd, Nat.reduceSub, List.replicate_succ, List.replicate_zero, List.cons_append, List.nil_append, Option.map_some, f__law_take, t1, hm]
      rw [e3, rb_ok]
      simp only [evE_var, evE_non, evE_bl, evE_int, evE_str, evE_glo, evE_fnv, evE_bin, evE_neg, evE_cmp, evE_cmp2, evE_isN, evE_notN, evE_and, evE_or, evE_not, evE_ife, evE_tup, evE_lst, evE_dicE, evE_call, evE_callv, evE_blt, evE_isi, evE_meth, evE_ix, evE_sl, evE_rev, evE_dpop, evE_dlen, evE_lrev, evT_not, evT_and, evT_or, evT_cmp, evT_cmp2, evT_isN, evT_notN, evT_call, evT_blt, evT_isi, evT_var, evT_ix, evL_nil, evL_cons, evL_scons, evLp_nil, evLp_cons, evO_nil, evI_rng, evI_enum, evI_zip, evI_items, evI_vals, evB_done, evB_ex, evB_asg, evB_own, evB_par, evB_par3, evB_aug, evB_app, evB_ext, evB_setI, evB_augI, evB_popS, evB_popD, evB_frz, evB_ifs, evB_brk, evB_cnt, evB_ret, evB_ret0, evB_dead, evO_one, evI_one, evTs_nil, evTs_one, evB_rse0, evAnd_1, evOr_1, evTand_1, evTor_1, evAnd_2, evOr_2, evTand_2, evTor_2, rb_ok, rb_exc, rb_bad, oo_some, get_0, get_1, get_2, get_3, get_4, get_5, get_6, get_7, get_8, get_9, get_10, get_11, get_12, get_13, get_14, get_15, get_16, get_17, varP_v, varP_o, varS_v, if_true, if_false, Bool.false_eq_true, asgP_0, asgP_1, asgP_2, asgP_3, asgP_4, asgP_5, asgP_6, asgP_7, asgP_8, asgP_9, asgP_10, asgP_11, asgP_12, asgP_13, asgP_14, asgP_15, asgP_16, asgP_17, List.map_cons, List.map_nil, List.length_cons, List.length_nil, Nat.reduceAdd, Nat.reduceSub, List.replicate_succ, List.replicate_zero, List.cons_append, List.nil_append, Option.map_some, f__law_take, t3, cm_eq, eqD_int, ap L L (by omega), bl_tup_lst, show (((0 : Nat) : Int) == 0) = true from rfl]
    · refine ⟨L ++ L.map rv, ?_, fun s hs => (List.mem_append.mp hs).elim (hL s) (hrv s), by simp [hLn], by simp; omega⟩
      refine call_ret (by simp) ?_
      unfold b__law_roll
      simp only [evE_var, evE_non, evE_bl, evE_int, evE_str, evE_glo, evE_fnv, evE_bin, evE_neg, evE_cmp, evE_cmp2, evE_isN, evE_notN, evE_and, evE_or, evE_not, evE_ife, evE_tup, evE_lst, evE_dicE, evE_call, evE_callv, evE_blt, evE_isi, evE_meth, evE_ix, evE_sl, evE_rev, evE_dpop, evE_dlen, evE_lrev, evT_not, evT_and, evT_or, evT_cmp, evT_cmp2, evT_isN, evT_notN, evT_call, evT_blt, evT_isi, evT_var, evT_ix, evL_nil, evL_cons, evL_scons, evLp_nil, evLp_cons, evO_nil, evI_rng, evI_enum, evI_zip, evI_items, evI_vals, evB_done, evB_ex, evB_asg, evB_own, evB_par, evB_par3, evB_aug, evB_app, evB_ext, evB_setI, evB_augI, evB_popS, evB_popD, evB_frz, evB_ifs, evB_brk, evB_cnt, evB_ret, evB_ret0, evB_dead, evO_one, evI_one, evTs_nil, evTs_one, evB_rse0, evAnd_1, evOr_1, evTand_1, evTor_1, evAnd_2, evOr_2, evTand_2, evTor_2, rb_ok, rb_exc, rb_bad, oo_some, get_0, get_1, get_2, get_3, get_4, get_5, get_6, get_7, get_8, get_9, get_10, get_11, get_12, get_13, get_14, get_15, get_16, get_17, varP_v, varP_o, varS_v, if_true, if_false, Bool.false_eq_true, asgP_0, asgP_1, asgP_2, asgP_3, asgP_4, asgP_5, asgP_6, asgP_7, asgP_8, asgP_9, asgP_10, asgP_11, asgP_12, asgP_13, asgP_14, asgP_15, asgP_16, asgP_17, List.map_cons, List.map_nil, List.length_cons, List.length_nil, Nat.reduceAdd, Nat.reduceSub, List.replicate_succ, List.replicate_zero, List.cons_append, List.nil_append, Option.map_some, f__law_take, t1, hm]
      rw [e3, rb_ok]
      simp only [evE_var, evE_non, evE_bl, evE_int, evE_str, evE_glo, evE_fnv, evE_bin, evE_neg, evE_cmp, evE_cmp2, evE_isN, evE_notN, evE_and, evE_or, evE_not, evE_ife, evE_tup, evE_lst, evE_dicE, evE_call, evE_callv, evE_blt, evE_isi, evE_meth, evE_ix, evE_sl, evE_rev, evE_dpop, evE_dlen, evE_lrev, evT_not, evT_and, evT_or, evT_cmp, evT_cmp2, evT_isN, evT_notN, evT_call, evT_blt, evT_isi, evT_var, evT_ix, evL_nil, evL_cons, evL_scons, evLp_nil, evLp_cons, evO_nil, evI_rng, evI_enum, evI_zip, evI_items, evI_vals, evB_done, evB_ex, evB_asg, evB_own, evB_par, evB_par3, evB_aug, evB_app, evB_ext, evB_setI, evB_augI, evB_popS, evB_popD, evB_frz, evB_ifs, evB_brk, evB_cnt, evB_ret, evB_ret0, evB_dead, evO_one, evI_one, evTs_nil, evTs_one, evB_rse0, evAnd_1, evOr_1, evTand_1, evTor_1, evAnd_2, evOr_2, evTand_2, evTor_2, rb_ok, rb_exc, rb_bad, oo_some, get_0, get_1, get_2, get_3, get_4, get_5, get_6, get_7, get_8, get_9, get_10, get_11, get_12, get_13, get_14, get_15, get_16, get_17, varP_v, varP_o, varS_v, if_true, if_false, Bool.false_eq_true, asgP_0, asgP_1, asgP_2, asgP_3, asgP_4, asgP_5, asgP_6, asgP_7, asgP_8, asgP_9, asgP_10, asgP_11, asgP_12, asgP_13, asgP_14, asgP_15, asgP_16, asgP_17, List.map_cons, List.map_nil, List.length_cons, List.length_nil, Nat.reduceAdd, Nat.reduceSub, List.replicate_succ, List.replicate_zero, List.cons_append, List.nil_append, Option.map_some, f__law_take, t3, cm_eq, eqD_int, rev_part (j + 2) hL (by omega), ap L (L.map rv) (by simp; omega), bl_tup_lst, show (((1 : Nat) : Int) == 0) = false from rfl, show (((1 : Nat) : Int) == 1) = true from rfl]
    · refine ⟨L.map (half (1 + k1)), ?_, hhf, by simp [hLn], by simp; omega⟩
      refine call_ret (by simp) ?_
      unfold b__law_roll
      simp only [evE_var, evE_non, evE_bl, evE_int, evE_str, evE_glo, evE_fnv, evE_bin, evE_neg, evE_cmp, evE_cmp2, evE_isN, evE_notN, evE_and, evE_or, evE_not, evE_ife, evE_tup, evE_lst, evE_dicE, evE_call, evE_callv, evE_blt, evE_isi, evE_meth, evE_ix, evE_sl, evE_rev, evE_dpop, evE_dlen, evE_lrev, evT_not, evT_and, evT_or, evT_cmp, evT_cmp2, evT_isN, evT_notN, evT_call, evT_blt, evT_isi, evT_var, evT_ix, evL_nil, evL_cons, evL_scons, evLp_nil, evLp_cons, evO_nil, evI_rng, evI_enum, evI_zip, evI_items, evI_vals, evB_done, evB_ex, evB_asg, evB_own, evB_par, evB_par3, evB_aug, evB_app, evB_ext, evB_setI, evB_augI, evB_popS, evB_popD, evB_frz, evB_ifs, evB_brk, evB_cnt, evB_ret, evB_ret0, evB_dead, evO_one, evI_one, evTs_nil, evTs_one, evB_rse0, evAnd_1, evOr_1, evTand_1, evTor_1, evAnd_2, evOr_2, evTand_2, evTor_2, rb_ok, rb_exc, rb_bad, oo_some, get_0, get_1, get_2, get_3, get_4, get_5, get_6, get_7, get_8, get_9, get_10, get_11, get_12, get_13, get_14, get_15, get_16, get_17, varP_v, varP_o, varS_v, if_true, if_false, Bool.false_eq_true, asgP_0, asgP_1, asgP_2, asgP_3, asgP_4, asgP_5, asgP_6, asgP_7, asgP_8, asgP_9, asgP_10, asgP_11, asgP_12, asgP_13, asgP_14, asgP_15, asgP_16, asgP_17, List.map_cons, List.map_nil, List.length_cons, List.length_nil, Nat.reduceAdd, Nat.reduceSub, List.replicate_succ, List.replicate_zero, List.cons_append, List.nil_append, Option.map_some, f__law_take, t1, hm]
      rw [e3, rb_ok]
      simp only [evE_var, evE_non, evE_bl, evE_int, evE_str, evE_glo, evE_fnv, evE_bin, evE_neg, evE_cmp, evE_cmp2, evE_isN, evE_notN, evE_and, evE_or, evE_not, evE_ife, evE_tup, evE_lst, evE_dicE, evE_call, evE_callv, evE_blt, evE_isi, evE_meth, evE_ix, evE_sl, evE_rev, evE_dpop, evE_dlen, evE_lrev, evT_not, evT_and, evT_or, evT_cmp, evT_cmp2, evT_isN, evT_notN, evT_call, evT_blt, evT_isi, evT_var, evT_ix, evL_nil, evL_cons, evL_scons, evLp_nil, evLp_cons, evO_nil, evI_rng, evI_enum, evI_zip, evI_items, evI_vals, evB_done, evB_ex, evB_asg, evB_own, evB_par, evB_par3, evB_aug, evB_app, evB_ext, evB_setI, evB_augI, evB_popS, evB_popD, evB_frz, evB_ifs, evB_brk, evB_cnt, evB_ret, evB_ret0, evB_dead, evO_one, evI_one, evTs_nil, evTs_one, evB_rse0, evAnd_1, evOr_1, evTand_1, evTor_1, evAnd_2, evOr_2, evTand_2, evTor_2, rb_ok, rb_exc, rb_bad, oo_some, get_0, get_1, get_2, get_3, get_4, get_5, get_6, get_7, get_8, get_9, get_10, get_11, get_12, get_13, get_14, get_15, get_16, get_17, varP_v, varP_o, varS_v, if_true, if_false, Bool.false_eq_true, asgP_0, asgP_1, asgP_2, asgP_3, asgP_4, asgP_5, asgP_6, asgP_7, asgP_8, asgP_9, asgP_10, asgP_11, asgP_12, asgP_13, asgP_14, asgP_15, asgP_16, asgP_17, List.map_cons, List.map_nil, List.length_cons, List.length_nil, Nat.reduceAdd, Nat.reduceSub, List.replicate_succ, List.replicate_zero, List.cons_append, List.nil_append, Option.map_some, f__law_take, t3, cm_eq, eqD_int, half_part (j + 2) hL (by omega), bl_tup_lst, show (((2 : Nat) : Int) == 0) = false from rfl, show (((2 : Nat) : Int) == 1) = false from rfl, show (((2 : Nat) : Int) == 2) = true from rfl]
    · refine ⟨(L ++ L.map rv) ++ L, ?_, fun s hs => (List.mem_append.mp hs).elim (fun q => (List.mem_append.mp q).elim (hL s) (hrv s)) (hL s), by simp [hLn], by simp; omega⟩
      refine call_ret (by simp) ?_
      unfold b__law_roll
      simp only [evE_var, evE_non, evE_bl, evE_int, evE_str, evE_glo, evE_fnv, evE_bin, evE_neg, evE_cmp, evE_cmp2, evE_isN, evE_notN, evE_and, evE_or, evE_not, evE_ife, evE_tup, evE_lst, evE_dicE, evE_call, evE_callv, evE_blt, evE_isi, evE_meth, evE_ix, evE_sl, evE_rev, evE_dpop, evE_dlen, evE_lrev, evT_not, evT_and, evT_or, evT_cmp, evT_cmp2, evT_isN, evT_notN, evT_call, evT_blt, evT_isi, evT_var, evT_ix, evL_nil, evL_cons, evL_scons, evLp_nil, evLp_cons, evO_nil, evI_rng, evI_enum, evI_zip, evI_items, evI_vals, evB_done, evB_ex, evB_asg, evB_own, evB_par, evB_par3, evB_aug, evB_app, evB_ext, evB_setI, evB_augI, evB_popS, evB_popD, evB_frz, evB_ifs, evB_brk, evB_cnt, evB_ret, evB_ret0, evB_dead, evO_one, evI_one, evTs_nil, evTs_one, evB_rse0, evAnd_1, evOr_1, evTand_1, evTor_1, evAnd_2, evOr_2, evTand_2, evTor_2, rb_ok, rb_exc, rb_bad, oo_some, get_0, get_1, get_2, get_3, get_4, get_5, get_6, get_7, get_8, get_9, get_10, get_11, get_12, get_13, get_14, get_15, get_16, get_17, varP_v, varP_o, varS_v, if_true, if_false, Bool.false_eq_true, asgP_0, asgP_1, asgP_2, asgP_3, asgP_4, asgP_5, asgP_6, asgP_7, asgP_8, asgP_9, asgP_10, asgP_11, asgP_12, asgP_13, asgP_14, asgP_15, asgP_16, asgP_17, List.map_cons, List.map_nil, List.length_cons, List.length_nil, Nat.reduceAdd, Nat.reduceSub, List.replicate_succ, List.replicate_zero, List.cons_append, List.nil_append, Option.map_some, f__law_take, t1, hm]
      rw [e3, rb_ok]
      simp only [evE_var, evE_non, evE_bl, evE_int, evE_str, evE_glo, evE_fnv, evE_bin, evE_neg, evE_cmp, evE_cmp2, evE_isN, evE_notN, evE_and, evE_or, evE_not, evE_ife, evE_tup, evE_lst, evE_dicE, evE_call, evE_callv, evE_blt, evE_isi, evE_meth, evE_ix, evE_sl, evE_rev, evE_dpop, evE_dlen, evE_lrev, evT_not, evT_and, evT_or, evT_cmp, evT_cmp2, evT_isN, evT_notN, evT_call, evT_blt, evT_isi, evT_var, evT_ix, evL_nil, evL_cons, evL_scons, evLp_nil, evLp_cons, evO_nil, evI_rng, evI_enum, evI_zip, evI_items, evI_vals, evB_done, evB_ex, evB_asg, evB_own, evB_par, evB_par3, evB_aug, evB_app, evB_ext, evB_setI, evB_augI, evB_popS, evB_popD, evB_frz, evB_ifs, evB_brk, evB_cnt, evB_ret, evB_ret0, evB_dead, evO_one, evI_one, evTs_nil, evTs_one, evB_rse0, evAnd_1, evOr_1, evTand_1, evTor_1, evAnd_2, evOr_2, evTand_2, evTor_2, rb_ok, rb_exc, rb_bad, oo_some, get_0, get_1, get_2, get_3, get_4, get_5, get_6, get_7, get_8, get_9, get_10, get_11, get_12, get_13, get_14, get_15, get_16, get_17, varP_v, varP_o, varS_v, if_true, if_false, Bool.false_eq_true, asgP_0, asgP_1, asgP_2, asgP_3, asgP_4, asgP_5, asgP_6, asgP_7, asgP_8, asgP_9, asgP_10, asgP_11, asgP_12, asgP_13, asgP_14, asgP_15, asgP_16, asgP_17, List.map_cons, List.map_nil, List.length_cons, List.length_nil, Nat.reduceAdd, Nat.reduceSub, List.replicate_succ, List.replicate_zero, List.cons_append, List.nil_append, Option.map_some, f__law_take, t3, cm_eq, eqD_int, rev_part (j + 2) hL (by omega), ap L (L.map rv) (by simp; omega), ap (L ++ L.map rv) L (by simp; omega), bl_tup_lst, show (((3 : Nat) : Int) == 0) = false from rfl, show (((3 : Nat) : Int) == 1) = false from rfl, show (((3 : Nat) : Int) == 2) = false from rfl, show (((3 : Nat) : Int) == 3) = true from rfl]
    · refine ⟨L, ?_, hL, hLn, by omega⟩
      refine call_ret (by simp) ?_
      unfold b__law_roll
      simp only [evE_var, evE_non, evE_bl, evE_int, evE_str, evE_glo, evE_fnv, evE_bin, evE_neg, evE_cmp, evE_cmp2, evE_isN, evE_notN, evE_and, evE_or, evE_not, evE_ife, evE_tup, evE_lst, evE_dicE, evE_call, evE_callv, evE_blt, evE_isi, evE_meth, evE_ix, evE_sl, evE_rev, evE_dpop, evE_dlen, evE_lrev, evT_not, evT_and, evT_or, evT_cmp, evT_cmp2, evT_isN, evT_notN, evT_call, evT_blt, evT_isi, evT_var, evT_ix, evL_nil, evL_cons, evL_scons, evLp_nil, evLp_cons, evO_nil, evI_rng, evI_enum, evI_zip, evI_items, evI_vals, evB_done, evB_ex, evB_asg, evB_own, evB_par, evB_par3, evB_aug, evB_app, evB_ext, evB_setI, evB_augI, evB_popS, evB_popD, evB_frz, evB_ifs, evB_brk, evB_cnt, evB_ret, evB_ret0, evB_dead, evO_one, evI_one, evTs_nil, evTs_one, evB_rse0, evAnd_1, evOr_1, evTand_1, evTor_1, evAnd_2, evOr_2, evTand_2, evTor_2, rb_ok, rb_exc, rb_bad, oo_some, get_0, get_1, get_2, get_3, get_4, get_5, get_6, get_7, get_8, get_9, get_10, get_11, get_12, get_13, get_14, get_15, get_16, get_17, varP_v, varP_o, varS_v, if_true, if_false, Bool.false_eq_true, asgP_0, asgP_1, asgP_2, asgP_3, asgP_4, asgP_5, asgP_6, asgP_7, asgP_8, asgP_9, asgP_10, asgP_11, asgP_12, asgP_13, asgP_14, asgP_15, asgP_16, asgP_17, List.map_cons, List.map_nil, List.length_cons, List.length_nil, Nat.reduceAdd, Nat.reduceSub, List.replicate_succ, List.replicate_zero, List.cons_append, List.nil_append, Option.map_some, f__law_take, t1, hm]
      rw [e3, rb_ok]
      simp only [evE_var, evE_non, evE_bl, evE_int, evE_str, evE_glo, evE_fnv, evE_bin, evE_neg, evE_cmp, evE_cmp2, evE_isN, evE_notN, evE_and, evE_or, evE_not, evE_ife, evE_tup, evE_lst, evE_dicE, evE_call, evE_callv, evE_blt, evE_isi, evE_meth, evE_ix, evE_sl, evE_rev, evE_dpop, evE_dlen, evE_lrev, evT_not, evT_and, evT_or, evT_cmp, evT_cmp2, evT_isN, evT_notN, evT_call, evT_blt, evT_isi, evT_var, evT_ix, evL_nil, evL_cons, evL_scons, evLp_nil, evLp_cons, evO_nil, evI_rng, evI_enum, evI_zip, evI_items, evI_vals, evB_done, evB_ex, evB_asg, evB_own, evB_par, evB_par3, evB_aug, evB_app, evB_ext, evB_setI, evB_augI, evB_popS, evB_popD, evB_frz, evB_ifs, evB_brk, evB_cnt, evB_ret, evB_ret0, evB_dead, evO_one, evI_one, evTs_nil, evTs_one, evB_rse0, evAnd_1, evOr_1, evTand_1, evTor_1, evAnd_2, evOr_2, evTand_2, evTor_2, rb_ok, rb_exc, rb_bad, oo_some, get_0, get_1, get_2, get_3, get_4, get_5, get_6, get_7, get_8, get_9, get_10, get_11, get_12, get_13, get_14, get_15, get_16, get_17, varP_v, varP_o, varS_v, if_true, if_false, Bool.false_eq_true, asgP_0, asgP_1, asgP_2, asgP_3, asgP_4, asgP_5, asgP_6, asgP_7, asgP_8, asgP_9, asgP_10, asgP_11, asgP_12, asgP_13, asgP_14, asgP_15, asgP_16, asgP_17, List.map_cons, List.map_nil, List.length_cons, List.length_nil, Nat.reduceAdd, Nat.reduceSub, List.replicate_succ, List.replicate_zero, List.cons_append, List.nil_append, Option.map_some, f__law_take, t3, cm_eq, eqD_int, bl_tup_lst, show (((4 : Nat) : Int) == 0) = false from rfl, show (((4 : Nat) : Int) == 1) = false from rfl, show (((4 : Nat) : Int) == 2) = false from rfl, show (((4 : Nat) : Int) == 3) = false from rfl]
  obtain ⟨B, e, hB, hne, hl⟩ := key
  exact ⟨1 + k1, B, dr4, e, (fin B hB hne hl).1, hl⟩
/-! ### the law's body -/
theorem par_1314 (x0 x1 x2 x3 x4 x5 x6 x7 x8 x9 x10 x11 x12 x13 x14 x15 x16 x17 : Sl) (a b : D) : ((setSl [x0, x1, x2, x3, x4, x5, x6, x7, x8, x9, x10, x11, x12, x13, x14, x15, x16, x17] 13 (.val a)).bind fun env => setSl env 14 (.val b)) = some [x0, x1, x2, x3, x4, x5, x6, x7, x8, x9, x10, x11, x12, .val a, .val b, x15, x16, x17] := Eq.trans rfl rfl
def bI : CS := (.par 13 14 (.call "_law_take" (.cons (.var 1) (.cons (.int 60) .nil))) (.call "_law_period" (.cons (.var 5) (.cons (.var 6) .nil))) (.asg (.nm 10) (.lst (.cons (.blt .tuple (.cons (.lc (.nm 17) (.rng (.cons (.var 13) .nil)) .nil (.call "_law_row" (.cons (.var 5) (.cons (.var 6) (.cons (.var 17) .nil))))) .nil)) (.cons (.var 14) .nil))) (.ifs (.not (.call "_law_same" (.cons (.lst (.cons (.call "_law_told" (.cons (.int 0) (.cons (.var 5) (.cons (.var 6) (.cons (.var 13) .nil))))) (.cons (.call "_law_told" (.cons (.int 1) (.cons (.var 5) (.cons (.var 6) (.cons (.int 0) .nil))))) .nil))) (.cons (.var 10) .nil)))) (.ret (.bl false)) .done (.asg (.nm 11) (.call "strip_rows" (.cons (.var 5) (.cons (.var 6) (.cons (.bin .mul (.int 4) (.blt .len (.cons (.var 5) .nil))) .nil)))) (.asg (.nm 12) (.lc (.nm 15) (.rng (.cons (.int 1) (.cons (.bin .add (.bin .mul (.int 2) (.blt .len (.cons (.var 5) .nil))) (.int 1)) .nil))) (.cons (.cmp .eq (.sl (.var 11) (.cons (.var 15) .nil) .nil) (.sl (.var 11) .nil (.cons (.bin .sub (.blt .len (.cons (.var 11) .nil)) (.var 15)) .nil))) .nil) (.var 15)) (.ifs (.cmp .ne (.ix (.var 12) (.int 0)) (.var 14)) (.ret (.bl false)) .done .done))))))
def bA : CS := (.asg (.nm 7) (.call "glued" (.cons (.var 5) (.cons (.call "turned_over" (.cons (.var 5) .nil)) .nil))) (.ifs (.not (.call "_law_same" (.cons (.lst (.cons (.call "strip_rows" (.cons (.var 7) (.cons (.bl false) (.cons (.int 50) .nil)))) (.cons (.call "strip_period" (.cons (.var 7) (.cons (.bl false) .nil))) .nil))) (.cons (.lst (.cons (.call "strip_rows" (.cons (.var 5) (.cons (.bl true) (.cons (.int 50) .nil)))) (.cons (.call "strip_period" (.cons (.var 5) (.cons (.bl true) .nil))) .nil))) .nil)))) (.ret (.bl false)) .done (.asg (.nm 8) (.call "_law_pick" (.cons (.var 1) (.cons (.lst (.cons .non (.cons (.tup .nil) (.cons (.tup (.cons (.str "") .nil)) (.cons (.tup (.cons (.str "x") .nil)) (.cons (.lst (.cons (.str "o") .nil)) (.cons (.tup (.cons (.str ".") (.cons (.str "..") .nil))) .nil))))))) .nil))) (.asg (.nm 9) (.bin .add (.lst (.cons (.call "_law_told" (.cons (.int 0) (.cons (.var 8) (.cons (.bl false) (.cons (.int 1) .nil))))) (.cons (.call "_law_told" (.cons (.int 1) (.cons (.var 8) (.cons (.bl true) (.cons (.int 0) .nil))))) .nil))) (.lc (.nm 16) (.cons (.lst (.cons (.int 0) (.cons (.int 1) .nil))) .nil) .nil (.call "_law_told" (.cons (.var 16) (.cons (.var 5) (.cons (.call "_law_pick" (.cons (.var 1) (.cons (.lst (.cons .non (.cons (.int 0) (.cons (.int 1) (.cons (.str "True") .nil))))) .nil))) (.cons (.int 1) .nil))))))) (.asg (.nm 9) (.bin .add (.var 9) (.lc (.nm 13) (.cons (.lst (.cons (.neg (.int 1)) (.cons (.int 5001) (.cons .non (.cons (.bl true) .nil))))) .nil) .nil (.call "_law_told" (.cons (.int 0) (.cons (.var 5) (.cons (.bl true) (.cons (.var 13) .nil))))))) (.ifs (.not (.call "_law_same" (.cons (.var 9) (.cons (.bin .mul (.lst (.cons (.var 2) .nil)) (.int 8)) .nil)))) (.ret (.bl false)) .done .done))))))
def bE : CS := (.asg (.nm 4) (.lst (.cons (.call "strip_period" (.cons (.tup (.cons (.str "o.") (.cons (.str ".o") .nil))) (.cons (.bl false) .nil))) (.cons (.call "strip_period" (.cons (.tup (.cons (.str "o.") .nil)) (.cons (.bl true) .nil))) (.cons (.call "strip_period" (.cons (.tup (.cons (.str "oo") (.cons (.str "..") .nil))) (.cons (.bl true) .nil))) (.cons (.call "strip_rows" (.cons (.tup (.cons (.str "o..") .nil)) (.cons (.bl true) (.cons (.int 3) .nil)))) (.cons (.blt .len (.cons (.call "strip_rows" (.cons (.tup (.cons (.str "o") .nil)) (.cons (.bl true) (.cons (.int 5000) .nil)))) .nil)) .nil)))))) (.ret (.call "_law_same" (.cons (.var 4) (.cons (.lst (.cons (.int 2) (.cons (.int 2) (.cons (.int 2) (.cons (.tup (.cons (.str "o..") (.cons (.str "..o") (.cons (.str "o..") .nil)))) (.cons (.int 5000) .nil)))))) .nil)))))
theorem b_law_eq : b_law = .asg (.nm 2) (.lst (.cons (.bl true) (.cons (.bl false) (.cons (.bl false) (.cons (.bl false) (.cons (.bl false) .nil)))))) (.for_ (.nm 3) (.rng (.cons (.int 5) .nil)) (.asg (.nm 5) (.call "_law_roll" (.cons (.var 1) .nil)) (.for_ (.nm 6) (.cons (.lst (.cons (.bl false) (.cons (.bl true) .nil))) .nil) bI bA)) bE) := rfl
theorem strip_ok {w : Nat} {W : List Str} (hW : 0 < W.length) (h : ∀ s ∈ W, Row w s) (m : Nat) : ∀ s ∈ strip W m, Row w s := fun s hs => by
  unfold strip at hs
  obtain ⟨k, _, rfl⟩ := List.mem_map.mp hs
  have hlt : k % W.length < W.length := Nat.mod_lt _ hW
  rw [List.getD_eq_getElem?_getD, List.getElem?_eq_getElem hlt]
  exact h _ (List.getElem_mem _)
theorem good_rows {w : Nat} {L : List Str} (h : ∀ s ∈ L, Row w s) (n : Nat) (hl : L.length ≤ 10000) : Good (n + 1) (.tup (L.map .str)) := ⟨by rw [List.length_map]; exact hl, fun d hd => by
  obtain ⟨s, hs, rfl⟩ := List.mem_map.mp hd
  cases n <;> exact strOk_row (h s hs)⟩
theorem due_lc (A : List Str) {w : Nat} (h : Roll w A) (tw : Bool) {k : Nat} (hk : k ≤ 60) (x0 x2 x3 x4 x7 x8 x9 x10 x11 x12 x14 x15 x16 x17 : Sl) (pk : Bool) (dr : List Int) : evE (pr.at 21) (.lc (.nm 17) (.rng (.cons (.var 13) .nil)) .nil (.call "_law_row" (.cons (.var 5) (.cons (.var 6) (.cons (.var 17) .nil))))) pk [x0, .val .drw, x2, x3, x4, .val (.tup (A.map .str)), .val (.bl tw), x7, x8, x9, x10, x11, x12, .val (.int k), x14, x15, x16, x17] dr = .ok (.lst ((strip (whole A tw) k).map .str)) dr := by
  rw [ev_lcm (fun d => match d with
    | .int i => .str (gS (whole A tw) i.toNat)
    | d => d) (ev_rng1 (m := k) (by omega) (by simp only [evE_var, evE_non, evE_bl, evE_int, evE_str, evE_glo, evE_fnv, evE_bin, evE_neg, evE_cmp, evE_cmp2, evE_isN, evE_notN, evE_and, evE_or, evE_not, evE_ife, evE_tup, evE_lst, evE_dicE, evE_call, evE_callv, evE_blt, evE_isi, evE_meth, evE_ix, evE_sl, evE_rev, evE_dpop, evE_dlen, evE_lrev, evT_not, evT_and, evT_or, evT_cmp, evT_cmp2, evT_isN, evT_notN, evT_call, evT_blt, evT_isi, evT_var, evT_ix, evL_nil, evL_cons, evL_scons, evLp_nil, evLp_cons, evO_nil, evI_rng, evI_enum, evI_zip, evI_items, evI_vals, evB_done, evB_ex, evB_asg, evB_own, evB_par, evB_par3, evB_aug, evB_app, evB_ext, evB_setI, evB_augI, evB_popS, evB_popD, evB_frz, evB_ifs, evB_brk, evB_cnt, evB_ret, evB_ret0, evB_dead, evO_one, evI_one, evTs_nil, evTs_one, evB_rse0, evAnd_1, evOr_1, evTand_1, evTor_1, evAnd_2, evOr_2, evTand_2, evTor_2, rb_ok, rb_exc, rb_bad, oo_some, get_0, get_1, get_2, get_3, get_4, get_5, get_6, get_7, get_8, get_9, get_10, get_11, get_12, get_13, get_14, get_15, get_16, get_17, varP_v, varP_o, varS_v, if_true, if_false, Bool.false_eq_true, asgP_0, asgP_1, asgP_2, asgP_3, asgP_4, asgP_5, asgP_6, asgP_7, asgP_8, asgP_9, asgP_10, asgP_11, asgP_12, asgP_13, asgP_14, asgP_15, asgP_16, asgP_17, List.map_cons, List.map_nil, List.length_cons, List.length_nil, Nat.reduceAdd, Nat.reduceSub, List.replicate_succ, List.replicate_zero, List.cons_append, List.nil_append, Option.map_some])) fun d hd => ?_]
  · unfold strip
    rw [List.map_map, List.map_map]
    rfl
  · obtain ⟨t, ht, rfl⟩ := List.mem_map.mp hd
    have ht2 := List.mem_range.mp ht
    have hr := law_row_ok 20 h tw (t := t) (by omega) dr
    unfold lcB
    simp only [evE_var, evE_non, evE_bl, evE_int, evE_str, evE_glo, evE_fnv, evE_bin, evE_neg, evE_cmp, evE_cmp2, evE_isN, evE_notN, evE_and, evE_or, evE_not, evE_ife, evE_tup, evE_lst, evE_dicE, evE_call, evE_callv, evE_blt, evE_isi, evE_meth, evE_ix, evE_sl, evE_rev, evE_dpop, evE_dlen, evE_lrev, evT_not, evT_and, evT_or, evT_cmp, evT_cmp2, evT_isN, evT_notN, evT_call, evT_blt, evT_isi, evT_var, evT_ix, evL_nil, evL_cons, evL_scons, evLp_nil, evLp_cons, evO_nil, evI_rng, evI_enum, evI_zip, evI_items, evI_vals, evB_done, evB_ex, evB_asg, evB_own, evB_par, evB_par3, evB_aug, evB_app, evB_ext, evB_setI, evB_augI, evB_popS, evB_popD, evB_frz, evB_ifs, evB_brk, evB_cnt, evB_ret, evB_ret0, evB_dead, evO_one, evI_one, evTs_nil, evTs_one, evB_rse0, evAnd_1, evOr_1, evTand_1, evTor_1, evAnd_2, evOr_2, evTand_2, evTor_2, rb_ok, rb_exc, rb_bad, oo_some, get_0, get_1, get_2, get_3, get_4, get_5, get_6, get_7, get_8, get_9, get_10, get_11, get_12, get_13, get_14, get_15, get_16, get_17, varP_v, varP_o, varS_v, if_true, if_false, Bool.false_eq_true, asgP_0, asgP_1, asgP_2, asgP_3, asgP_4, asgP_5, asgP_6, asgP_7, asgP_8, asgP_9, asgP_10, asgP_11, asgP_12, asgP_13, asgP_14, asgP_15, asgP_16, asgP_17, List.map_cons, List.map_nil, List.length_cons, List.length_nil, Nat.reduceAdd, Nat.reduceSub, List.replicate_succ, List.replicate_zero, List.cons_append, List.nil_append, Option.map_some, wipeE, slots, List.set_cons_zero, List.set_cons_succ, f__law_row, hr]
    rfl
theorem again_lc (A : List Str) {w : Nat} (h : Roll w A) (tw : Bool) (hA : A.length ≤ 15) (x0 x2 x3 x4 x7 x8 x9 x10 x12 x13 x14 x15 x16 x17 : Sl) (pk : Bool) (dr : List Int) : evE (pr.at 21) (.lc (.nm 15) (.rng (.cons (.int 1) (.cons (.bin .add (.bin .mul (.int 2) (.blt .len (.cons (.var 5) .nil))) (.int 1)) .nil))) (.cons (.cmp .eq (.sl (.var 11) (.cons (.var 15) .nil) .nil) (.sl (.var 11) .nil (.cons (.bin .sub (.blt .len (.cons (.var 11) .nil)) (.var 15)) .nil))) .nil) (.var 15)) pk [x0, .val .drw, x2, x3, x4, .val (.tup (A.map .str)), .val (.bl tw), x7, x8, x9, x10, .val (.tup ((strip (whole A tw) (4 * A.length)).map .str)), x12, x13, x14, x15, x16, x17] dr =
    .ok (.lst ((((List.range (2 * A.length)).map (· + 1)).filter (sh (strip (whole A tw) (4 * A.length)))).map fun (p : Nat) => D.int (p : Int))) dr := by
  obtain ⟨hpos, hmax⟩ := whole_pos h tw
  have hstr : ∀ s ∈ strip (whole A tw) (4 * A.length), PyData.strOk s = true := fun s hs => strOk_row (strip_ok hpos (whole_rows h tw) _ s hs)
  have hsl := strip_len (whole A tw) (4 * A.length)
  generalize hR : strip (whole A tw) (4 * A.length) = R at *
  have e2 : (2 : Int) * (A.length : Int) = ((2 * A.length : Nat) : Int) := by omega
  rw [ev_lc (ofI (sh R)) (ev_rng2 (m := 2 * A.length) (by omega) (evE_int _ _ _ _ _) (by simp only [evE_var, evE_non, evE_bl, evE_int, evE_str, evE_glo, evE_fnv, evE_bin, evE_neg, evE_cmp, evE_cmp2, evE_isN, evE_notN, evE_and, evE_or, evE_not, evE_ife, evE_tup, evE_lst, evE_dicE, evE_call, evE_callv, evE_blt, evE_isi, evE_meth, evE_ix, evE_sl, evE_rev, evE_dpop, evE_dlen, evE_lrev, evT_not, evT_and, evT_or, evT_cmp, evT_cmp2, evT_isN, evT_notN, evT_call, evT_blt, evT_isi, evT_var, evT_ix, evL_nil, evL_cons, evL_scons, evLp_nil, evLp_cons, evO_nil, evI_rng, evI_enum, evI_zip, evI_items, evI_vals, evB_done, evB_ex, evB_asg, evB_own, evB_par, evB_par3, evB_aug, evB_app, evB_ext, evB_setI, evB_augI, evB_popS, evB_popD, evB_frz, evB_ifs, evB_brk, evB_cnt, evB_ret, evB_ret0, evB_dead, evO_one, evI_one, evTs_nil, evTs_one, evB_rse0, evAnd_1, evOr_1, evTand_1, evTor_1, evAnd_2, evOr_2, evTand_2, evTor_2, rb_ok, rb_exc, rb_bad, oo_some, get_0, get_1, get_2, get_3, get_4, get_5, get_6, get_7, get_8, get_9, get_10, get_11, get_12, get_13, get_14, get_15, get_16, get_17, varP_v, varP_o, varS_v, if_true, if_false, Bool.false_eq_true, asgP_0, asgP_1, asgP_2, asgP_3, asgP_4, asgP_5, asgP_6, asgP_7, asgP_8, asgP_9, asgP_10, asgP_11, asgP_12, asgP_13, asgP_14, asgP_15, asgP_16, asgP_17, List.map_cons, List.map_nil, List.length_cons, List.length_nil, Nat.reduceAdd, Nat.reduceSub, List.replicate_succ, List.replicate_zero, List.cons_append, List.nil_append, Option.map_some, bl_len_tup, List.length_map, bi_mul (mul2 (n := A.length) (by omega) 2), bi_add, e2])) fun d hd => ?_]
  · rw [range1, ofI_map]
  · obtain ⟨k, hk, rfl⟩ := List.mem_map.mp hd
    have hk2 := List.mem_range.mp hk
    have s1 : slD (.tup (R.map D.str)) (some ((k + 1 : Nat) : Int)) none = some (.tup ((R.drop (k + 1)).map D.str)) := by
      show some (D.tup (cut (R.map D.str) (some ((k + 1 : Nat) : Int)) none)) = _
      rw [cut_drop, List.map_drop]
    have e6 : (R.length : Int) - ((k + 1 : Nat) : Int) = ((R.length - (k + 1) : Nat) : Int) := by omega
    have s2 : slD (.tup (R.map D.str)) none (some ((R.length : Int) - ((k + 1 : Nat) : Int))) = some (.tup ((R.take (R.length - (k + 1))).map D.str)) := by
      rw [e6]
      show some (D.tup (cut (R.map D.str) none (some ((R.length - (k + 1) : Nat) : Int)))) = _
      rw [cut_take, List.map_take]
    have s4 : eqD (.tup ((R.drop (k + 1)).map D.str)) (.tup ((R.take (R.length - (k + 1))).map D.str)) = some (sh R (k + 1)) := eqD_tup _ _ (fun a ha => hstr a (List.mem_of_mem_drop ha)) fun a ha => hstr a (List.mem_of_mem_take ha)
    unfold lcB
    simp only [evE_var, evE_non, evE_bl, evE_int, evE_str, evE_glo, evE_fnv, evE_bin, evE_neg, evE_cmp, evE_cmp2, evE_isN, evE_notN, evE_and, evE_or, evE_not, evE_ife, evE_tup, evE_lst, evE_dicE, evE_call, evE_callv, evE_blt, evE_isi, evE_meth, evE_ix, evE_sl, evE_rev, evE_dpop, evE_dlen, evE_lrev, evT_not, evT_and, evT_or, evT_cmp, evT_cmp2, evT_isN, evT_notN, evT_call, evT_blt, evT_isi, evT_var, evT_ix, evL_nil, evL_cons, evL_scons, evLp_nil, evLp_cons, evO_nil, evI_rng, evI_enum, evI_zip, evI_items, evI_vals, evB_done, evB_ex, evB_asg, evB_own, evB_par, evB_par3, evB_aug, evB_app, evB_ext, evB_setI, evB_augI, evB_popS, evB_popD, evB_frz, evB_ifs, evB_brk, evB_cnt, evB_ret, evB_ret0, evB_dead, evO_one, evI_one, evTs_nil, evTs_one, evB_rse0, evAnd_1, evOr_1, evTand_1, evTor_1, evAnd_2, evOr_2, evTand_2, evTor_2, rb_ok, rb_exc, rb_bad, oo_some, get_0, get_1, get_2, get_3, get_4, get_5, get_6, get_7, get_8, get_9, get_10, get_11, get_12, get_13, get_14, get_15, get_16, get_17, varP_v, varP_o, varS_v, if_true, if_false, Bool.false_eq_true, asgP_0, asgP_1, asgP_2, asgP_3, asgP_4, asgP_5, asgP_6, asgP_7, asgP_8, asgP_9, asgP_10, asgP_11, asgP_12, asgP_13, asgP_14, asgP_15, asgP_16, asgP_17, List.map_cons, List.map_nil, List.length_cons, List.length_nil, Nat.reduceAdd, Nat.reduceSub, List.replicate_succ, List.replicate_zero, List.cons_append, List.nil_append, Option.map_some, wipeE, slots, List.set_cons_zero, List.set_cons_succ, evO_one, evO_nil, s1, bl_len_tup, List.length_map, bi_sub, s2, cm_eq, s4]
    show _ = Res.ok (if sh R (((k + 1 : Nat) : Int).toNat) = true then _ else _) dr
    rw [Int.toNat_natCast]
    cases sh R (k + 1) <;> rfl
theorem inner (A : List Str) {w : Nat} (h : Roll w A) (hA : A.length ≤ 15) (tw : Bool) (x0 x2 x3 x4 x7 x8 x9 x10 x11 x12 x13 x14 x15 x16 x17 : Sl) (dr : List Int) : ∃ (y10 y11 y12 y13 y14 : Sl) (dr' : List Int), evB (pr.at 21) bI [x0, .val .drw, x2, x3, x4, .val (.tup (A.map .str)), .val (.bl tw), x7, x8, x9, x10, x11, x12, x13, x14, x15, x16, x17] dr = .ok (.nx [x0, .val .drw, x2, x3, x4, .val (.tup (A.map .str)), .val (.bl tw), x7, x8, x9, y10, y11, y12, y13, y14, x15, x16, x17]) dr' := by
  obtain ⟨k, dr1, t1, hk⟩ := take_ok 20 (b := 60) (by omega) dr
  have t1 : callD (pr.at 20) 2 b__law_take [.drw, .int 60] dr = .ok (.int k) dr1 := t1
  obtain ⟨hpos, hmax⟩ := whole_pos h tw
  have hlen := whole_len A tw
  have hrow := whole_rows h tw
  have t2 : ∀ dr, callD (pr.at 20) 6 b__law_period [.tup (A.map .str), .bl tw] dr = .ok (.int (period (whole A tw))) dr := fun dr => law_period_ok 19 h tw dr
  have t3 : ∀ dr, callD (pr.at 20) 5 b__law_told [.int 0, .tup (A.map .str), .bl tw, .int k] dr = .ok (.tup ((strip (whole A tw) k).map .str)) dr := fun dr => told_rows 16 h tw (by omega) dr
  have t4 : ∀ dr, callD (pr.at 20) 5 b__law_told [.int 1, .tup (A.map .str), .bl tw, .int 0] dr = .ok (.int (period (whole A tw))) dr := fun dr => told_per 16 h tw _ dr
  have e4 : (4 : Int) * (A.length : Int) = ((4 * A.length : Nat) : Int) := by omega
  have t5 : ∀ dr, callD (pr.at 20) 5 b_strip_rows [.tup (A.map .str), .bl tw, .int (4 * A.length : Nat)] dr = .ok (.tup ((strip (whole A tw) (4 * A.length)).map .str)) dr := fun dr => strip_rows_ok 17 h tw (by omega) dr
  have hz2 : szOk 2 = true := sz88 (by omega)
  have gd : Good 2 (.lst [.tup ((strip (whole A tw) k).map .str), .int (period (whole A tw))]) := ⟨by simp, fun d hd => by
    rcases List.mem_cons.mp hd with rfl | hd
    · exact good_rows (strip_ok hpos hrow k) 0 (by rw [strip_len]; omega)
    · cases List.mem_singleton.mp hd
      trivial⟩
  have t6 : ∀ dr, callD (pr.at 20) 4 b__law_same [.lst [.tup ((strip (whole A tw) k).map .str), .int (period (whole A tw))], .lst [.tup ((strip (whole A tw) k).map .str), .int (period (whole A tw))]] dr = .ok (.bl true) dr := fun dr => same_ok 2 18 _ gd dr
  have hag : (((List.range (2 * A.length)).map (· + 1)).filter (sh (strip (whole A tw) (4 * A.length)))).headD 0 = period (whole A tw) := again_eq hpos (by rw [hlen]; cases tw <;> simp <;> omega) (by rw [hlen]; cases tw <;> simp <;> omega)
  have hne : ((List.range (2 * A.length)).map (· + 1)).filter (sh (strip (whole A tw) (4 * A.length))) ≠ [] := fun e => by
    obtain ⟨p, h0, hp1, _⟩ := period_eq hpos
    rw [e, h0] at hag
    have : 0 = p := hag
    omega
  have hix := head_ne 0 hne (fun (p : Nat) => D.int (p : Int))
  rw [hag] at hix
  refine ⟨.val (.lst [.tup ((strip (whole A tw) k).map .str), .int (period (whole A tw))]), .val (.tup ((strip (whole A tw) (4 * A.length)).map .str)), .val (.lst ((((List.range (2 * A.length)).map (· + 1)).filter (sh (strip (whole A tw) (4 * A.length)))).map fun (p : Nat) => D.int (p : Int))), .val (.int k), .val (.int (period (whole A tw))), dr1, ?_⟩
  unfold bI
  simp only [evE_var, evE_non, evE_bl, evE_int, evE_str, evE_glo, evE_fnv, evE_bin, evE_neg, evE_cmp, evE_cmp2, evE_isN, evE_notN, evE_and, evE_or, evE_not, evE_ife, evE_tup, evE_lst, evE_dicE, evE_call, evE_callv, evE_blt, evE_isi, evE_meth, evE_ix, evE_sl, evE_rev, evE_dpop, evE_dlen, evE_lrev, evT_not, evT_and, evT_or, evT_cmp, evT_cmp2, evT_isN, evT_notN, evT_call, evT_blt, evT_isi, evT_var, evT_ix, evL_nil, evL_cons, evL_scons, evLp_nil, evLp_cons, evO_nil, evI_rng, evI_enum, evI_zip, evI_items, evI_vals, evB_done, evB_ex, evB_asg, evB_own, evB_par, evB_par3, evB_aug, evB_app, evB_ext, evB_setI, evB_augI, evB_popS, evB_popD, evB_frz, evB_ifs, evB_brk, evB_cnt, evB_ret, evB_ret0, evB_dead, evO_one, evI_one, evTs_nil, evTs_one, evB_rse0, evAnd_1, evOr_1, evTand_1, evTor_1, evAnd_2, evOr_2, evTand_2, evTor_2, rb_ok, rb_exc, rb_bad, oo_some, get_0, get_1, get_2, get_3, get_4, get_5, get_6, get_7, get_8, get_9, get_10, get_11, get_12, get_13, get_14, get_15, get_16, get_17, varP_v, varP_o, varS_v, if_true, if_false, Bool.false_eq_true, asgP_0, asgP_1, asgP_2, asgP_3, asgP_4, asgP_5, asgP_6, asgP_7, asgP_8, asgP_9, asgP_10, asgP_11, asgP_12, asgP_13, asgP_14, asgP_15, asgP_16, asgP_17, List.map_cons, List.map_nil, List.length_cons, List.length_nil, Nat.reduceAdd, Nat.reduceSub, List.replicate_succ, List.replicate_zero, List.cons_append, List.nil_append, Option.map_some, f__law_take, t1, f__law_period, t2, par_1314, due_lc A h tw (k := k) (by omega), bl_tup_lst, hz2, f__law_told, t3, t4, f__law_same, t6, D.tru, Bool.not_true, bl_len_tup, List.length_map, bi_mul (mul2 (n := A.length) (by omega) 4), e4, f_strip_rows, t5, again_lc A h tw hA, ix_lst, hix, cm_ne, eqD_int, beq_self_eq_true, grd]
theorem odd_lc (A : List Str) {w : Nat} (h : Roll w A) (x0 x2 x3 x4 x6 x7 x8 x9 x10 x11 x12 x13 x14 x15 x16 x17 : Sl) (pk : Bool) (dr : List Int) : ∃ dr', evE (pr.at 21) (.lc (.nm 16) (.cons (.lst (.cons (.int 0) (.cons (.int 1) .nil))) .nil) .nil (.call "_law_told" (.cons (.var 16) (.cons (.var 5) (.cons (.call "_law_pick" (.cons (.var 1) (.cons (.lst (.cons .non (.cons (.int 0) (.cons (.int 1) (.cons (.str "True") .nil))))) .nil))) (.cons (.int 1) .nil)))))) pk [x0, .val .drw, x2, x3, x4, .val (.tup (A.map .str)), x6, x7, x8, x9, x10, x11, x12, x13, x14, x15, x16, x17] dr = .ok (.lst [FL, FL]) dr' := by
  have hz2 : szOk 2 = true := sz88 (by omega)
  have hz4 : szOk 4 = true := sz88 (by omega)
  obtain ⟨ys, dr', e, hl, hp⟩ := ev_lcd (G := pr.at 21) (p := .nm 16) (it := .cons (.lst (.cons (.int 0) (.cons (.int 1) .nil))) .nil) (t := .nil) (e := .call "_law_told" (.cons (.var 16) (.cons (.var 5) (.cons (.call "_law_pick" (.cons (.var 1) (.cons (.lst (.cons .non (.cons (.int 0) (.cons (.int 1) (.cons (.str "True") .nil))))) .nil))) (.cons (.int 1) .nil))))) (pk := pk) (env := [x0, .val .drw, x2, x3, x4, .val (.tup (A.map .str)), x6, x7, x8, x9, x10, x11, x12, x13, x14, x15, x16, x17]) (dr := dr) (dr1 := dr) (xs := [.int 0, .int 1]) (P := fun y => y = FL)
    (by simp only [evE_var, evE_non, evE_bl, evE_int, evE_str, evE_glo, evE_fnv, evE_bin, evE_neg, evE_cmp, evE_cmp2, evE_isN, evE_notN, evE_and, evE_or, evE_not, evE_ife, evE_tup, evE_lst, evE_dicE, evE_call, evE_callv, evE_blt, evE_isi, evE_meth, evE_ix, evE_sl, evE_rev, evE_dpop, evE_dlen, evE_lrev, evT_not, evT_and, evT_or, evT_cmp, evT_cmp2, evT_isN, evT_notN, evT_call, evT_blt, evT_isi, evT_var, evT_ix, evL_nil, evL_cons, evL_scons, evLp_nil, evLp_cons, evO_nil, evI_rng, evI_enum, evI_zip, evI_items, evI_vals, evB_done, evB_ex, evB_asg, evB_own, evB_par, evB_par3, evB_aug, evB_app, evB_ext, evB_setI, evB_augI, evB_popS, evB_popD, evB_frz, evB_ifs, evB_brk, evB_cnt, evB_ret, evB_ret0, evB_dead, evO_one, evI_one, evTs_nil, evTs_one, evB_rse0, evAnd_1, evOr_1, evTand_1, evTor_1, evAnd_2, evOr_2, evTand_2, evTor_2, rb_ok, rb_exc, rb_bad, oo_some, get_0, get_1, get_2, get_3, get_4, get_5, get_6, get_7, get_8, get_9, get_10, get_11, get_12, get_13, get_14, get_15, get_16, get_17, varP_v, varP_o, varS_v, if_true, if_false, Bool.false_eq_true, asgP_0, asgP_1, asgP_2, asgP_3, asgP_4, asgP_5, asgP_6, asgP_7, asgP_8, asgP_9, asgP_10, asgP_11, asgP_12, asgP_13, asgP_14, asgP_15, asgP_16, asgP_17, List.map_cons, List.map_nil, List.length_cons, List.length_nil, Nat.reduceAdd, Nat.reduceSub, List.replicate_succ, List.replicate_zero, List.cons_append, List.nil_append, Option.map_some, evI_one, hz2, grd, it_lst]) fun d hd dr1 => by
      obtain ⟨x, dr2, ex, hx⟩ := pick_ok 19 (ds := [.non, .int 0, .int 1, .str "True"]) (by decide) dr1
      have ex : callD (pr.at 20) 2 b__law_pick [.drw, .lst [.non, .int 0, .int 1, .str "True"]] dr1 = .ok x dr2 := ex
      have hnb : NB x := by
        simp only [List.mem_cons, List.not_mem_nil, or_false] at hx
        rcases hx with rfl | rfl | rfl | rfl <;> exact rfl
      have t0 : callD (pr.at 20) 5 b__law_told [.int 0, .tup (A.map .str), x, .int 1] dr2 = .ok FL dr2 := told_nb0 16 h hnb _ dr2
      have t1 : callD (pr.at 20) 5 b__law_told [.int 1, .tup (A.map .str), x, .int 1] dr2 = .ok FL dr2 := told_nb1 16 h hnb _ dr2
      refine ⟨FL, dr2, ?_, rfl⟩
      unfold lcB
      rcases List.mem_cons.mp hd with rfl | hd
      · simp only [evE_var, evE_non, evE_bl, evE_int, evE_str, evE_glo, evE_fnv, evE_bin, evE_neg, evE_cmp, evE_cmp2, evE_isN, evE_notN, evE_and, evE_or, evE_not, evE_ife, evE_tup, evE_lst, evE_dicE, evE_call, evE_callv, evE_blt, evE_isi, evE_meth, evE_ix, evE_sl, evE_rev, evE_dpop, evE_dlen, evE_lrev, evT_not, evT_and, evT_or, evT_cmp, evT_cmp2, evT_isN, evT_notN, evT_call, evT_blt, evT_isi, evT_var, evT_ix, evL_nil, evL_cons, evL_scons, evLp_nil, evLp_cons, evO_nil, evI_rng, evI_enum, evI_zip, evI_items, evI_vals, evB_done, evB_ex, evB_asg, evB_own, evB_par, evB_par3, evB_aug, evB_app, evB_ext, evB_setI, evB_augI, evB_popS, evB_popD, evB_frz, evB_ifs, evB_brk, evB_cnt, evB_ret, evB_ret0, evB_dead, evO_one, evI_one, evTs_nil, evTs_one, evB_rse0, evAnd_1, evOr_1, evTand_1, evTor_1, evAnd_2, evOr_2, evTand_2, evTor_2, rb_ok, rb_exc, rb_bad, oo_some, get_0, get_1, get_2, get_3, get_4, get_5, get_6, get_7, get_8, get_9, get_10, get_11, get_12, get_13, get_14, get_15, get_16, get_17, varP_v, varP_o, varS_v, if_true, if_false, Bool.false_eq_true, asgP_0, asgP_1, asgP_2, asgP_3, asgP_4, asgP_5, asgP_6, asgP_7, asgP_8, asgP_9, asgP_10, asgP_11, asgP_12, asgP_13, asgP_14, asgP_15, asgP_16, asgP_17, List.map_cons, List.map_nil, List.length_cons, List.length_nil, Nat.reduceAdd, Nat.reduceSub, List.replicate_succ, List.replicate_zero, List.cons_append, List.nil_append, Option.map_some, wipeE, slots, List.set_cons_zero, List.set_cons_succ, hz4, grd, f__law_pick, ex, f__law_told, t0]
      · cases List.mem_singleton.mp hd
        simp only [evE_var, evE_non, evE_bl, evE_int, evE_str, evE_glo, evE_fnv, evE_bin, evE_neg, evE_cmp, evE_cmp2, evE_isN, evE_notN, evE_and, evE_or, evE_not, evE_ife, evE_tup, evE_lst, evE_dicE, evE_call, evE_callv, evE_blt, evE_isi, evE_meth, evE_ix, evE_sl, evE_rev, evE_dpop, evE_dlen, evE_lrev, evT_not, evT_and, evT_or, evT_cmp, evT_cmp2, evT_isN, evT_notN, evT_call, evT_blt, evT_isi, evT_var, evT_ix, evL_nil, evL_cons, evL_scons, evLp_nil, evLp_cons, evO_nil, evI_rng, evI_enum, evI_zip, evI_items, evI_vals, evB_done, evB_ex, evB_asg, evB_own, evB_par, evB_par3, evB_aug, evB_app, evB_ext, evB_setI, evB_augI, evB_popS, evB_popD, evB_frz, evB_ifs, evB_brk, evB_cnt, evB_ret, evB_ret0, evB_dead, evO_one, evI_one, evTs_nil, evTs_one, evB_rse0, evAnd_1, evOr_1, evTand_1, evTor_1, evAnd_2, evOr_2, evTand_2, evTor_2, rb_ok, rb_exc, rb_bad, oo_some, get_0, get_1, get_2, get_3, get_4, get_5, get_6, get_7, get_8, get_9, get_10, get_11, get_12, get_13, get_14, get_15, get_16, get_17, varP_v, varP_o, varS_v, if_true, if_false, Bool.false_eq_true, asgP_0, asgP_1, asgP_2, asgP_3, asgP_4, asgP_5, asgP_6, asgP_7, asgP_8, asgP_9, asgP_10, asgP_11, asgP_12, asgP_13, asgP_14, asgP_15, asgP_16, asgP_17, List.map_cons, List.map_nil, List.length_cons, List.length_nil, Nat.reduceAdd, Nat.reduceSub, List.replicate_succ, List.replicate_zero, List.cons_append, List.nil_append, Option.map_some, wipeE, slots, List.set_cons_zero, List.set_cons_succ, hz4, grd, f__law_pick, ex, f__law_told, t1]
  refine ⟨dr', ?_⟩
  rw [e]
  match ys, hl, hp with
  | [a, b], _, hp =>
    rw [hp a List.mem_cons_self, hp b (List.mem_cons_of_mem _ List.mem_cons_self)]
theorem much_lc (A : List Str) {w : Nat} (h : Roll w A) (x0 x2 x3 x4 x6 x7 x8 x9 x10 x11 x12 x13 x14 x15 x16 x17 : Sl) (pk : Bool) (dr : List Int) : evE (pr.at 21) (.lc (.nm 13) (.cons (.lst (.cons (.neg (.int 1)) (.cons (.int 5001) (.cons .non (.cons (.bl true) .nil))))) .nil) .nil (.call "_law_told" (.cons (.int 0) (.cons (.var 5) (.cons (.bl true) (.cons (.var 13) .nil)))))) pk [x0, .val .drw, x2, x3, x4, .val (.tup (A.map .str)), x6, x7, x8, x9, x10, x11, x12, x13, x14, x15, x16, x17] dr = .ok (.lst [FL, FL, FL, FL]) dr := by
  have hz4 : szOk 4 = true := sz88 (by omega)
  rw [ev_lcm (fun _ => FL) (xs := [.int (-1), .int 5001, .non, .bl true]) (by simp only [evE_var, evE_non, evE_bl, evE_int, evE_str, evE_glo, evE_fnv, evE_bin, evE_neg, evE_cmp, evE_cmp2, evE_isN, evE_notN, evE_and, evE_or, evE_not, evE_ife, evE_tup, evE_lst, evE_dicE, evE_call, evE_callv, evE_blt, evE_isi, evE_meth, evE_ix, evE_sl, evE_rev, evE_dpop, evE_dlen, evE_lrev, evT_not, evT_and, evT_or, evT_cmp, evT_cmp2, evT_isN, evT_notN, evT_call, evT_blt, evT_isi, evT_var, evT_ix, evL_nil, evL_cons, evL_scons, evLp_nil, evLp_cons, evO_nil, evI_rng, evI_enum, evI_zip, evI_items, evI_vals, evB_done, evB_ex, evB_asg, evB_own, evB_par, evB_par3, evB_aug, evB_app, evB_ext, evB_setI, evB_augI, evB_popS, evB_popD, evB_frz, evB_ifs, evB_brk, evB_cnt, evB_ret, evB_ret0, evB_dead, evO_one, evI_one, evTs_nil, evTs_one, evB_rse0, evAnd_1, evOr_1, evTand_1, evTor_1, evAnd_2, evOr_2, evTand_2, evTor_2, rb_ok, rb_exc, rb_bad, oo_some, get_0, get_1, get_2, get_3, get_4, get_5, get_6, get_7, get_8, get_9, get_10, get_11, get_12, get_13, get_14, get_15, get_16, get_17, varP_v, varP_o, varS_v, if_true, if_false, Bool.false_eq_true, asgP_0, asgP_1, asgP_2, asgP_3, asgP_4, asgP_5, asgP_6, asgP_7, asgP_8, asgP_9, asgP_10, asgP_11, asgP_12, asgP_13, asgP_14, asgP_15, asgP_16, asgP_17, List.map_cons, List.map_nil, List.length_cons, List.length_nil, Nat.reduceAdd, Nat.reduceSub, List.replicate_succ, List.replicate_zero, List.cons_append, List.nil_append, Option.map_some, evI_one, hz4, grd, it_lst]) fun d hd => ?_]
  · rfl
  · have t : callD (pr.at 20) 5 b__law_told [.int 0, .tup (A.map .str), .bl true, d] dr = .ok FL dr := told_much 16 h true (fun dr => by
      simp only [List.mem_cons, List.not_mem_nil, or_false] at hd
      rcases hd with rfl | rfl | rfl | rfl
      · exact is_within_int 17 (-1) 0 5000 dr
      · exact is_within_int 17 5001 0 5000 dr
      · exact is_within_non 17 0 5000 dr
      · exact is_within_bl 17 true 0 5000 dr) dr
    unfold lcB
    simp only [evE_var, evE_non, evE_bl, evE_int, evE_str, evE_glo, evE_fnv, evE_bin, evE_neg, evE_cmp, evE_cmp2, evE_isN, evE_notN, evE_and, evE_or, evE_not, evE_ife, evE_tup, evE_lst, evE_dicE, evE_call, evE_callv, evE_blt, evE_isi, evE_meth, evE_ix, evE_sl, evE_rev, evE_dpop, evE_dlen, evE_lrev, evT_not, evT_and, evT_or, evT_cmp, evT_cmp2, evT_isN, evT_notN, evT_call, evT_blt, evT_isi, evT_var, evT_ix, evL_nil, evL_cons, evL_scons, evLp_nil, evLp_cons, evO_nil, evI_rng, evI_enum, evI_zip, evI_items, evI_vals, evB_done, evB_ex, evB_asg, evB_own, evB_par, evB_par3, evB_aug, evB_app, evB_ext, evB_setI, evB_augI, evB_popS, evB_popD, evB_frz, evB_ifs, evB_brk, evB_cnt, evB_ret, evB_ret0, evB_dead, evO_one, evI_one, evTs_nil, evTs_one, evB_rse0, evAnd_1, evOr_1, evTand_1, evTor_1, evAnd_2, evOr_2, evTand_2, evTor_2, rb_ok, rb_exc, rb_bad, oo_some, get_0, get_1, get_2, get_3, get_4, get_5, get_6, get_7, get_8, get_9, get_10, get_11, get_12, get_13, get_14, get_15, get_16, get_17, varP_v, varP_o, varS_v, if_true, if_false, Bool.false_eq_true, asgP_0, asgP_1, asgP_2, asgP_3, asgP_4, asgP_5, asgP_6, asgP_7, asgP_8, asgP_9, asgP_10, asgP_11, asgP_12, asgP_13, asgP_14, asgP_15, asgP_16, asgP_17, List.map_cons, List.map_nil, List.length_cons, List.length_nil, Nat.reduceAdd, Nat.reduceSub, List.replicate_succ, List.replicate_zero, List.cons_append, List.nil_append, Option.map_some, wipeE, slots, List.set_cons_zero, List.set_cons_succ, f__law_told, t]
theorem afterI (A : List Str) {w : Nat} (h : Roll w A) (hA : A.length ≤ 15) (x0 x3 x4 x6 x7 x8 x9 x10 x11 x12 x13 x14 x15 x16 x17 : Sl) (dr : List Int) : ∃ (y7 y8 y9 : Sl) (dr' : List Int), evB (pr.at 21) bA [x0, .val .drw, .val FL, x3, x4, .val (.tup (A.map .str)), x6, x7, x8, x9, x10, x11, x12, x13, x14, x15, x16, x17] dr = .ok (.nx [x0, .val .drw, .val FL, x3, x4, .val (.tup (A.map .str)), x6, y7, y8, y9, x10, x11, x12, x13, x14, x15, x16, x17]) dr' := by
  have hrv : Roll w (A.map rv) := ⟨h.w1, h.w2, by simp [h.ne], by simp; omega, fun s hs => by
    obtain ⟨t, ht, rfl⟩ := List.mem_map.mp hs
    exact rv_row (h.rows t ht)⟩
  have hB : Roll w (whole A true) := ⟨h.w1, h.w2, by simp [whole, h.ne], by rw [whole_len]; simp; omega, whole_rows h true⟩
  obtain ⟨hpos, hmax⟩ := whole_pos h true
  have g1 : ∀ dr, callD (pr.at 20) 1 b_turned_over [.tup (A.map .str)] dr = .ok (.tup ((A.map rv).map .str)) dr := fun dr => turned_ok 17 h dr
  have g2 : ∀ dr, callD (pr.at 20) 2 b_glued [.tup (A.map .str), .tup ((A.map rv).map .str)] dr = .ok (.tup ((whole A true).map .str)) dr := fun dr => glued_ok 17 h hrv (by simp; omega) dr
  have r1 : ∀ dr, callD (pr.at 20) 5 b_strip_rows [.tup ((whole A true).map .str), .bl false, .int 50] dr = .ok (.tup ((strip (whole A true) 50).map .str)) dr := fun dr => strip_rows_ok 17 hB false (m := 50) (by omega) dr
  have r2 : ∀ dr, callD (pr.at 20) 5 b_strip_rows [.tup (A.map .str), .bl true, .int 50] dr = .ok (.tup ((strip (whole A true) 50).map .str)) dr := fun dr => strip_rows_ok 17 h true (m := 50) (by omega) dr
  have p1 : ∀ dr, callD (pr.at 20) 5 b_strip_period [.tup ((whole A true).map .str), .bl false] dr = .ok (.int (period (whole A true))) dr := fun dr => strip_period_ok 17 hB false dr
  have p2 : ∀ dr, callD (pr.at 20) 5 b_strip_period [.tup (A.map .str), .bl true] dr = .ok (.int (period (whole A true))) dr := fun dr => strip_period_ok 17 h true dr
  have gd : Good 2 (.lst [.tup ((strip (whole A true) 50).map .str), .int (period (whole A true))]) := ⟨by simp, fun d hd => by
    rcases List.mem_cons.mp hd with rfl | hd
    · exact good_rows (strip_ok hpos (whole_rows h true) 50) 0 (by rw [strip_len]; omega)
    · cases List.mem_singleton.mp hd
      trivial⟩
  have t6 : ∀ dr, callD (pr.at 20) 4 b__law_same [.lst [.tup ((strip (whole A true) 50).map .str), .int (period (whole A true))], .lst [.tup ((strip (whole A true) 50).map .str), .int (period (whole A true))]] dr = .ok (.bl true) dr := fun dr => same_ok 2 18 _ gd dr
  obtain ⟨x, dr1, ex, hx⟩ := pick_ok 19 (ds := badRolls) (by decide) dr
  have ex : callD (pr.at 20) 2 b__law_pick [.drw, .lst [.non, .tup [], .tup [.str ""], .tup [.str "x"], .lst [.str "o"], .tup [.str ".", .str ".."]]] dr = .ok x dr1 := ex
  have o0 : ∀ dr, callD (pr.at 20) 5 b__law_told [.int 0, x, .bl false, .int 1] dr = .ok FL dr := fun dr => told_bad0 15 hx dr
  have o1 : ∀ dr, callD (pr.at 20) 5 b__law_told [.int 1, x, .bl true, .int 0] dr = .ok FL dr := fun dr => told_bad1 15 hx dr
  obtain ⟨dr2, e2⟩ := odd_lc A h x0 (.val FL) x3 x4 x6 (.val (.tup ((whole A true).map .str))) (.val x) x9 x10 x11 x12 x13 x14 x15 x16 x17 true dr1
  have gd8 : Good 2 (.lst [FL, FL, FL, FL, FL, FL, FL, FL]) := ⟨by simp, fun d hd => by
    have : d = FL := by simpa using hd
    subst this
    exact ⟨by simp, fun e he => by
      simp only [List.mem_cons, List.not_mem_nil, or_false] at he
      rcases he with rfl | rfl | rfl | rfl | rfl <;> trivial⟩⟩
  have t7 : ∀ dr, callD (pr.at 20) 4 b__law_same [.lst [FL, FL, FL, FL, FL, FL, FL, FL], .lst [FL, FL, FL, FL, FL, FL, FL, FL]] dr = .ok (.bl true) dr := fun dr => same_ok 2 18 _ gd8 dr
  have z : ∀ n, n ≤ 20 → szOk n = true := fun n hn => sz88 (by omega)
  have a4 : binD .add (.lst [FL, FL]) (.lst [FL, FL]) = some (.lst [FL, FL, FL, FL]) := by rw [bi_add_lst (xs := [FL, FL]) (ys := [FL, FL]) (z 4 (by omega))]; rfl
  have a8 : binD .add (.lst [FL, FL, FL, FL]) (.lst [FL, FL, FL, FL]) = some (.lst [FL, FL, FL, FL, FL, FL, FL, FL]) := by rw [bi_add_lst (xs := [FL, FL, FL, FL]) (ys := [FL, FL, FL, FL]) (z 8 (by omega))]; rfl
  have m8 : binD .mul (.lst [FL]) (.int 8) = some (.lst [FL, FL, FL, FL, FL, FL, FL, FL]) := by
    show grd (decide (-(2 ^ 63) ≤ (8 : Int) ∧ (8 : Int) < 2 ^ 63) && szOk 8) _ = _
    rw [z 8 (by omega)]
    rfl
  refine ⟨.val (.tup ((whole A true).map .str)), .val x, .val (.lst [FL, FL, FL, FL, FL, FL, FL, FL]), dr2, ?_⟩
  unfold bA
  simp only [evE_var, evE_non, evE_bl, evE_int, evE_str, evE_glo, evE_fnv, evE_bin, evE_neg, evE_cmp, evE_cmp2, evE_isN, evE_notN, evE_and, evE_or, evE_not, evE_ife, evE_tup, evE_lst, evE_dicE, evE_call, evE_callv, evE_blt, evE_isi, evE_meth, evE_ix, evE_sl, evE_rev, evE_dpop, evE_dlen, evE_lrev, evT_not, evT_and, evT_or, evT_cmp, evT_cmp2, evT_isN, evT_notN, evT_call, evT_blt, evT_isi, evT_var, evT_ix, evL_nil, evL_cons, evL_scons, evLp_nil, evLp_cons, evO_nil, evI_rng, evI_enum, evI_zip, evI_items, evI_vals, evB_done, evB_ex, evB_asg, evB_own, evB_par, evB_par3, evB_aug, evB_app, evB_ext, evB_setI, evB_augI, evB_popS, evB_popD, evB_frz, evB_ifs, evB_brk, evB_cnt, evB_ret, evB_ret0, evB_dead, evO_one, evI_one, evTs_nil, evTs_one, evB_rse0, evAnd_1, evOr_1, evTand_1, evTor_1, evAnd_2, evOr_2, evTand_2, evTor_2, rb_ok, rb_exc, rb_bad, oo_some, get_0, get_1, get_2, get_3, get_4, get_5, get_6, get_7, get_8, get_9, get_10, get_11, get_12, get_13, get_14, get_15, get_16, get_17, varP_v, varP_o, varS_v, if_true, if_false, Bool.false_eq_true, asgP_0, asgP_1, asgP_2, asgP_3, asgP_4, asgP_5, asgP_6, asgP_7, asgP_8, asgP_9, asgP_10, asgP_11, asgP_12, asgP_13, asgP_14, asgP_15, asgP_16, asgP_17, List.map_cons, List.map_nil, List.length_cons, List.length_nil, Nat.reduceAdd, Nat.reduceSub, List.replicate_succ, List.replicate_zero, List.cons_append, List.nil_append, Option.map_some, f_turned_over, g1, f_glued, g2, f_strip_rows, r1, r2, f_strip_period, p1, p2, z 2 (by omega), z 6 (by omega), z 0 (by omega), z 1 (by omega), f__law_same, t6, D.tru, Bool.not_true, f__law_pick, ex, f__law_told, o0, o1, e2, a4, much_lc A h, a8, m8, t7, grd]
def IvA (A : List Str) (env : Cr.Env) : Prop := ∃ x0 x3 x4 x6 x7 x8 x9 x10 x11 x12 x13 x14 x15 x16 x17 : Sl, env = [x0, .val .drw, .val FL, x3, x4, .val (.tup (A.map .str)), x6, x7, x8, x9, x10, x11, x12, x13, x14, x15, x16, x17]
def Iv (env : Cr.Env) : Prop := ∃ x0 x3 x4 x5 x6 x7 x8 x9 x10 x11 x12 x13 x14 x15 x16 x17 : Sl, env = [x0, .val .drw, .val FL, x3, x4, x5, x6, x7, x8, x9, x10, x11, x12, x13, x14, x15, x16, x17]
theorem turn (env : Cr.Env) (h : Iv env) (dr : List Int) : ∃ env' dr', evB (pr.at 21) (.asg (.nm 5) (.call "_law_roll" (.cons (.var 1) .nil)) (.for_ (.nm 6) (.cons (.lst (.cons (.bl false) (.cons (.bl true) .nil))) .nil) bI bA)) env dr = .ok (.nx env') dr' ∧ Iv env' := by
  obtain ⟨x0, x3, x4, x5, x6, x7, x8, x9, x10, x11, x12, x13, x14, x15, x16, x17, rfl⟩ := h
  obtain ⟨w, A, dr1, e1, hA, hl⟩ := roll_ok 18 dr
  have e1 : callD (pr.at 20) 6 b__law_roll [.drw] dr = .ok (.tup (A.map .str)) dr1 := e1
  obtain ⟨env2, dr2, e2, i2⟩ := forL_nx (b := fun d env dr => (ofO (asgP (.nm 6) d env) dr).bind fun env dr => evB (pr.at 21) bI env dr) (fun _ env _ => IvA A env) [.bl false, .bl true] 0 [x0, .val .drw, .val FL, x3, x4, .val (.tup (A.map .str)), x6, x7, x8, x9, x10, x11, x12, x13, x14, x15, x16, x17] dr1 ⟨x0, x3, x4, x6, x7, x8, x9, x10, x11, x12, x13, x14, x15, x16, x17, rfl⟩ fun k d env dr hk hi => by
    obtain ⟨x0, x3, x4, x6, x7, x8, x9, x10, x11, x12, x13, x14, x15, x16, x17, rfl⟩ := hi
    have hd : ∃ tw, d = .bl tw := by
      match k, hk with
      | 0, hk => exact ⟨false, (Option.some.inj hk).symm⟩
      | 1, hk => exact ⟨true, (Option.some.inj hk).symm⟩
    obtain ⟨tw, rfl⟩ := hd
    obtain ⟨y10, y11, y12, y13, y14, dr', e⟩ := inner A hA hl tw x0 (.val FL) x3 x4 x7 x8 x9 x10 x11 x12 x13 x14 x15 x16 x17 dr
    refine ⟨_, dr', .inl ?_, x0, x3, x4, .val (.bl tw), x7, x8, x9, y10, y11, y12, y13, y14, x15, x16, x17, rfl⟩
    rw [asgP_6, oo_some, rb_ok, e]
  obtain ⟨x0, x3, x4, x6, x7, x8, x9, x10, x11, x12, x13, x14, x15, x16, x17, rfl⟩ := i2
  obtain ⟨y7, y8, y9, dr3, e3⟩ := afterI A hA hl x0 x3 x4 x6 x7 x8 x9 x10 x11 x12 x13 x14 x15 x16 x17 dr2
  refine ⟨_, dr3, ?_, x0, x3, x4, .val (.tup (A.map .str)), x6, y7, y8, y9, x10, x11, x12, x13, x14, x15, x16, x17, rfl⟩
  have hz2 : szOk 2 = true := sz88 (by omega)
  rw [evB_asg, evE_call]
  simp only [evE_var, evE_non, evE_bl, evE_int, evE_str, evE_glo, evE_fnv, evE_bin, evE_neg, evE_cmp, evE_cmp2, evE_isN, evE_notN, evE_and, evE_or, evE_not, evE_ife, evE_tup, evE_lst, evE_dicE, evE_call, evE_callv, evE_blt, evE_isi, evE_meth, evE_ix, evE_sl, evE_rev, evE_dpop, evE_dlen, evE_lrev, evT_not, evT_and, evT_or, evT_cmp, evT_cmp2, evT_isN, evT_notN, evT_call, evT_blt, evT_isi, evT_var, evT_ix, evL_nil, evL_cons, evL_scons, evLp_nil, evLp_cons, evO_nil, evI_rng, evI_enum, evI_zip, evI_items, evI_vals, evB_done, evB_ex, evB_asg, evB_own, evB_par, evB_par3, evB_aug, evB_app, evB_ext, evB_setI, evB_augI, evB_popS, evB_popD, evB_frz, evB_ifs, evB_brk, evB_cnt, evB_ret, evB_ret0, evB_dead, evO_one, evI_one, evTs_nil, evTs_one, evB_rse0, evAnd_1, evOr_1, evTand_1, evTor_1, evAnd_2, evOr_2, evTand_2, evTor_2, rb_ok, rb_exc, rb_bad, oo_some, get_0, get_1, get_2, get_3, get_4, get_5, get_6, get_7, get_8, get_9, get_10, get_11, get_12, get_13, get_14, get_15, get_16, get_17, varP_v, varP_o, varS_v, if_true, if_false, Bool.false_eq_true, asgP_0, asgP_1, asgP_2, asgP_3, asgP_4, asgP_5, asgP_6, asgP_7, asgP_8, asgP_9, asgP_10, asgP_11, asgP_12, asgP_13, asgP_14, asgP_15, asgP_16, asgP_17, List.map_cons, List.map_nil, List.length_cons, List.length_nil, Nat.reduceAdd, Nat.reduceSub, List.replicate_succ, List.replicate_zero, List.cons_append, List.nil_append, Option.map_some, f__law_roll, e1]
  rw [ev_for_nx (dr1 := dr1) (xs := [.bl false, .bl true]) (by simp only [evE_var, evE_non, evE_bl, evE_int, evE_str, evE_glo, evE_fnv, evE_bin, evE_neg, evE_cmp, evE_cmp2, evE_isN, evE_notN, evE_and, evE_or, evE_not, evE_ife, evE_tup, evE_lst, evE_dicE, evE_call, evE_callv, evE_blt, evE_isi, evE_meth, evE_ix, evE_sl, evE_rev, evE_dpop, evE_dlen, evE_lrev, evT_not, evT_and, evT_or, evT_cmp, evT_cmp2, evT_isN, evT_notN, evT_call, evT_blt, evT_isi, evT_var, evT_ix, evL_nil, evL_cons, evL_scons, evLp_nil, evLp_cons, evO_nil, evI_rng, evI_enum, evI_zip, evI_items, evI_vals, evB_done, evB_ex, evB_asg, evB_own, evB_par, evB_par3, evB_aug, evB_app, evB_ext, evB_setI, evB_augI, evB_popS, evB_popD, evB_frz, evB_ifs, evB_brk, evB_cnt, evB_ret, evB_ret0, evB_dead, evO_one, evI_one, evTs_nil, evTs_one, evB_rse0, evAnd_1, evOr_1, evTand_1, evTor_1, evAnd_2, evOr_2, evTand_2, evTor_2, rb_ok, rb_exc, rb_bad, oo_some, get_0, get_1, get_2, get_3, get_4, get_5, get_6, get_7, get_8, get_9, get_10, get_11, get_12, get_13, get_14, get_15, get_16, get_17, varP_v, varP_o, varS_v, if_true, if_false, Bool.false_eq_true, asgP_0, asgP_1, asgP_2, asgP_3, asgP_4, asgP_5, asgP_6, asgP_7, asgP_8, asgP_9, asgP_10, asgP_11, asgP_12, asgP_13, asgP_14, asgP_15, asgP_16, asgP_17, List.map_cons, List.map_nil, List.length_cons, List.length_nil, Nat.reduceAdd, Nat.reduceSub, List.replicate_succ, List.replicate_zero, List.cons_append, List.nil_append, Option.map_some, evI_one, hz2, grd, it_lst]) e2, e3]
theorem endE (env : Cr.Env) (h : Iv env) (dr : List Int) : evB (pr.at 21) bE env dr = .ok (.rt (.bl true)) dr := by
  obtain ⟨x0, x3, x4, x5, x6, x7, x8, x9, x10, x11, x12, x13, x14, x15, x16, x17, rfl⟩ := h
  have hro : Roll 1 ["o"] := ⟨by omega, by omega, by simp, by simp, fun s hs => by
    cases List.mem_singleton.mp hs
    exact ⟨by decide +kernel, fun c hc => by
      have : (("o" : Str)).cps.toList = [111] := by decide +kernel
      rw [this] at hc
      exact .inl (List.mem_singleton.mp hc)⟩⟩
  have a1 : callD (pr.at 20) 5 b_strip_period [.tup [.str "o.", .str ".o"], .bl false] dr = .ok (.int 2) dr := by kernel_rfl
  have a2 : callD (pr.at 20) 5 b_strip_period [.tup [.str "o."], .bl true] dr = .ok (.int 2) dr := by kernel_rfl
  have a3 : callD (pr.at 20) 5 b_strip_period [.tup [.str "oo", .str ".."], .bl true] dr = .ok (.int 2) dr := by kernel_rfl
  have a4 : callD (pr.at 20) 5 b_strip_rows [.tup [.str "o.."], .bl true, .int 3] dr = .ok (.tup [.str "o..", .str "..o", .str "o.."]) dr := by kernel_rfl
  have a5 : callD (pr.at 20) 5 b_strip_rows [.tup [.str "o"], .bl true, .int 5000] dr = .ok (.tup ((strip (whole ["o"] true) 5000).map .str)) dr := strip_rows_ok 17 hro true (m := 5000) (by omega) dr
  have gd : Good 2 (.lst [.int 2, .int 2, .int 2, .tup [.str "o..", .str "..o", .str "o.."], .int 5000]) := ⟨by simp, fun d hd => by
    simp only [List.mem_cons, List.not_mem_nil, or_false] at hd
    rcases hd with rfl | rfl | rfl | rfl | rfl
    · trivial
    · trivial
    · trivial
    · exact ⟨by simp, fun e he => by
        simp only [List.mem_cons, List.not_mem_nil, or_false] at he
        rcases he with rfl | rfl | rfl <;> (show PyData.strOk _ = true) <;> decide +kernel⟩
    · trivial⟩
  have t6 : callD (pr.at 20) 4 b__law_same [.lst [.int 2, .int 2, .int 2, .tup [.str "o..", .str "..o", .str "o.."], .int 5000], .lst [.int 2, .int 2, .int 2, .tup [.str "o..", .str "..o", .str "o.."], .int 5000]] dr = .ok (.bl true) dr := same_ok 2 18 _ gd dr
  have z : ∀ n, n ≤ 20 → szOk n = true := fun n hn => sz88 (by omega)
  have hl : ((strip (whole ["o"] true) 5000).map D.str).length = 5000 := by rw [List.length_map, strip_len]
  unfold bE
  simp only [evE_var, evE_non, evE_bl, evE_int, evE_str, evE_glo, evE_fnv, evE_bin, evE_neg, evE_cmp, evE_cmp2, evE_isN, evE_notN, evE_and, evE_or, evE_not, evE_ife, evE_tup, evE_lst, evE_dicE, evE_call, evE_callv, evE_blt, evE_isi, evE_meth, evE_ix, evE_sl, evE_rev, evE_dpop, evE_dlen, evE_lrev, evT_not, evT_and, evT_or, evT_cmp, evT_cmp2, evT_isN, evT_notN, evT_call, evT_blt, evT_isi, evT_var, evT_ix, evL_nil, evL_cons, evL_scons, evLp_nil, evLp_cons, evO_nil, evI_rng, evI_enum, evI_zip, evI_items, evI_vals, evB_done, evB_ex, evB_asg, evB_own, evB_par, evB_par3, evB_aug, evB_app, evB_ext, evB_setI, evB_augI, evB_popS, evB_popD, evB_frz, evB_ifs, evB_brk, evB_cnt, evB_ret, evB_ret0, evB_dead, evO_one, evI_one, evTs_nil, evTs_one, evB_rse0, evAnd_1, evOr_1, evTand_1, evTor_1, evAnd_2, evOr_2, evTand_2, evTor_2, rb_ok, rb_exc, rb_bad, oo_some, get_0, get_1, get_2, get_3, get_4, get_5, get_6, get_7, get_8, get_9, get_10, get_11, get_12, get_13, get_14, get_15, get_16, get_17, varP_v, varP_o, varS_v, if_true, if_false, Bool.false_eq_true, asgP_0, asgP_1, asgP_2, asgP_3, asgP_4, asgP_5, asgP_6, asgP_7, asgP_8, asgP_9, asgP_10, asgP_11, asgP_12, asgP_13, asgP_14, asgP_15, asgP_16, asgP_17, List.map_cons, List.map_nil, List.length_cons, List.length_nil, Nat.reduceAdd, Nat.reduceSub, List.replicate_succ, List.replicate_zero, List.cons_append, List.nil_append, Option.map_some, z 1 (by omega), z 2 (by omega), z 3 (by omega), z 5 (by omega), f_strip_period, a1, a2, a3, f_strip_rows, a4, a5, bl_len_tup, hl, f__law_same, grd]
  rw [show ((5000 : Nat) : Int) = 5000 from rfl, t6, rb_ok]
theorem hl (js : List Int) : ∃ dr', evB (pr.at 21) dd_law.body (.no :: .val .drw :: List.replicate (dd_law.N.length - 2) .no) js.reverse = .ok (.rt (.bl true)) dr' := by
  have hz5 : szOk 5 = true := sz88 (by omega)
  have h0 : Iv [.no, .val .drw, .val FL, .no, .no, .no, .no, .no, .no, .no, .no, .no, .no, .no, .no, .no, .no, .no] := ⟨.no, .no, .no, .no, .no, .no, .no, .no, .no, .no, .no, .no, .no, .no, .no, .no, rfl⟩
  obtain ⟨env2, dr2, e2, i2⟩ := forL_nx (b := fun d env dr => (ofO (asgP (.nm 3) d env) dr).bind fun env dr => evB (pr.at 21) (.asg (.nm 5) (.call "_law_roll" (.cons (.var 1) .nil)) (.for_ (.nm 6) (.cons (.lst (.cons (.bl false) (.cons (.bl true) .nil))) .nil) bI bA)) env dr) (fun _ env _ => Iv env) ((List.range 5).map fun (k : Nat) => D.int (k : Int)) 0 _ js.reverse h0 fun k d env dr hk hi => by
    obtain ⟨x0, x3, x4, x5, x6, x7, x8, x9, x10, x11, x12, x13, x14, x15, x16, x17, rfl⟩ := hi
    obtain ⟨env', dr', e, i'⟩ := turn [x0, .val .drw, .val FL, .val d, x4, x5, x6, x7, x8, x9, x10, x11, x12, x13, x14, x15, x16, x17] ⟨x0, .val d, x4, x5, x6, x7, x8, x9, x10, x11, x12, x13, x14, x15, x16, x17, rfl⟩ dr
    refine ⟨env', dr', .inl ?_, i'⟩
    rw [asgP_3, oo_some, rb_ok, e]
  refine ⟨dr2, ?_⟩
  show evB (pr.at 21) b_law [.no, .val .drw, .no, .no, .no, .no, .no, .no, .no, .no, .no, .no, .no, .no, .no, .no, .no, .no] js.reverse = _
  rw [b_law_eq, evB_asg]
  simp only [evE_var, evE_non, evE_bl, evE_int, evE_str, evE_glo, evE_fnv, evE_bin, evE_neg, evE_cmp, evE_cmp2, evE_isN, evE_notN, evE_and, evE_or, evE_not, evE_ife, evE_tup, evE_lst, evE_dicE, evE_call, evE_callv, evE_blt, evE_isi, evE_meth, evE_ix, evE_sl, evE_rev, evE_dpop, evE_dlen, evE_lrev, evT_not, evT_and, evT_or, evT_cmp, evT_cmp2, evT_isN, evT_notN, evT_call, evT_blt, evT_isi, evT_var, evT_ix, evL_nil, evL_cons, evL_scons, evLp_nil, evLp_cons, evO_nil, evI_rng, evI_enum, evI_zip, evI_items, evI_vals, evB_done, evB_ex, evB_asg, evB_own, evB_par, evB_par3, evB_aug, evB_app, evB_ext, evB_setI, evB_augI, evB_popS, evB_popD, evB_frz, evB_ifs, evB_brk, evB_cnt, evB_ret, evB_ret0, evB_dead, evO_one, evI_one, evTs_nil, evTs_one, evB_rse0, evAnd_1, evOr_1, evTand_1, evTor_1, evAnd_2, evOr_2, evTand_2, evTor_2, rb_ok, rb_exc, rb_bad, oo_some, get_0, get_1, get_2, get_3, get_4, get_5, get_6, get_7, get_8, get_9, get_10, get_11, get_12, get_13, get_14, get_15, get_16, get_17, varP_v, varP_o, varS_v, if_true, if_false, Bool.false_eq_true, asgP_0, asgP_1, asgP_2, asgP_3, asgP_4, asgP_5, asgP_6, asgP_7, asgP_8, asgP_9, asgP_10, asgP_11, asgP_12, asgP_13, asgP_14, asgP_15, asgP_16, asgP_17, List.map_cons, List.map_nil, List.length_cons, List.length_nil, Nat.reduceAdd, Nat.reduceSub, List.replicate_succ, List.replicate_zero, List.cons_append, List.nil_append, Option.map_some, hz5, grd]
  have key : evB (pr.at 21) (.for_ (.nm 3) (.rng (.cons (.int 5) .nil)) (.asg (.nm 5) (.call "_law_roll" (.cons (.var 1) .nil)) (.for_ (.nm 6) (.cons (.lst (.cons (.bl false) (.cons (.bl true) .nil))) .nil) bI bA)) bE) [.no, .val .drw, .val FL, .no, .no, .no, .no, .no, .no, .no, .no, .no, .no, .no, .no, .no, .no, .no] js.reverse = .ok (.rt (.bl true)) dr2 := by
    have h5 : evE (pr.at 21) (.int 5) true [.no, .val .drw, .val FL, .no, .no, .no, .no, .no, .no, .no, .no, .no, .no, .no, .no, .no, .no, .no] js.reverse = .ok (.int ((5 : Nat) : Int)) js.reverse := evE_int _ _ _ _ _
    have hr5 := ev_rng1 (pk := false) (m := 5) (by omega) h5
    rw [ev_for_nx hr5 e2]
    exact endE env2 i2 dr2
  exact key
end K07
namespace K07
open PySem Cr
/-- the row's slots while it grows: n items at most -/
def DI (is : List Int) (n : Nat) (env : Cr.Env) : Prop := ∃ (ds : List Int) (seed : Int) (x3 x4 x5 : Sl), env = [.val (.ilst is), .own (.lst (ds.map .int)), .val (.int seed), x3, x4, x5] ∧ ds.length ≤ n ∧ 0 ≤ seed ∧ seed < 2147483647
theorem sl16 {n : Nat} (h : n ≤ 1000000) : decide (n < sizeLine) = true := by
  rw [sizeLine_eq]
  exact decide_eq_true (by omega)
theorem m_seed {s : Int} (h0 : 0 ≤ s) (h1 : s < 2147483647) (c : Int) : mulOk s c = true := mul_small (by omega) (by omega)
theorem snoc_map (ds : List Int) (x : Int) : ds.map D.int ++ [.int x] = (ds ++ [x]).map .int := by simp
theorem last_loop (j : Nat) (is : List Int) (n : Nat) (env : Cr.Env) (h : DI is n env) (hn : n ≤ 10000) : ∃ env', forL (fun d env dr => (ofO (asgP (.nm 4) d env) dr).bind fun env dr => evB (pr.at j) (.asg (.nm 2) (.bin .mod (.blt .int (.cons (.bin .add (.bin .mul (.var 2) (.int 48271)) (.int 69621)) .nil)) (.int 2147483647)) (.app 1 (.bin .fdiv (.var 2) (.int 5)) .done)) env dr) ((List.range 700).map fun (k : Nat) => D.int (k : Int)) env [] = .ok (.nx env') [] ∧ DI is (n + 700) env' := by
  have d5 : divOk 5 = true := by decide +kernel
  obtain ⟨env', dr', e, ⟨i1, i2⟩⟩ := forL_nx (b := fun d env dr => (ofO (asgP (.nm 4) d env) dr).bind fun env dr => evB (pr.at j) (.asg (.nm 2) (.bin .mod (.blt .int (.cons (.bin .add (.bin .mul (.var 2) (.int 48271)) (.int 69621)) .nil)) (.int 2147483647)) (.app 1 (.bin .fdiv (.var 2) (.int 5)) .done)) env dr) (fun i env dr => DI is (n + i) env ∧ dr = []) ((List.range 700).map fun (k : Nat) => D.int (k : Int)) 0 env [] ⟨h, rfl⟩ fun k d env dr hk hi => by
    obtain ⟨⟨ds, seed, x3, x4, x5, rfl, hl, h0, h1⟩, rfl⟩ := hi
    have hk2 : k < 700 := by
      have := (List.getElem?_eq_some_iff.mp hk).1
      simpa using this
    have hz : decide ((ds.map D.int).length < sizeLine) = true := sl16 (by rw [List.length_map]; omega)
    refine ⟨[.val (.ilst is), .own (.lst ((ds ++ [(seed * 48271 + 69621) % 2147483647 / 5]).map .int)), .val (.int ((seed * 48271 + 69621) % 2147483647)), x3, .val d, x5], [], .inl ?_, ⟨_, _, _, _, _, rfl, by rw [List.length_append]; simp; omega, by omega, by omega⟩, rfl⟩
    simp only [evE_var, evE_non, evE_bl, evE_int, evE_str, evE_glo, evE_fnv, evE_bin, evE_neg, evE_cmp, evE_cmp2, evE_isN, evE_notN, evE_and, evE_or, evE_not, evE_ife, evE_tup, evE_lst, evE_dicE, evE_call, evE_callv, evE_blt, evE_isi, evE_meth, evE_ix, evE_sl, evE_rev, evE_dpop, evE_dlen, evE_lrev, evT_not, evT_and, evT_or, evT_cmp, evT_cmp2, evT_isN, evT_notN, evT_call, evT_blt, evT_isi, evT_var, evT_ix, evL_nil, evL_cons, evL_scons, evLp_nil, evLp_cons, evO_nil, evI_rng, evI_enum, evI_zip, evI_items, evI_vals, evB_done, evB_ex, evB_asg, evB_own, evB_par, evB_par3, evB_aug, evB_app, evB_ext, evB_setI, evB_augI, evB_popS, evB_popD, evB_frz, evB_ifs, evB_brk, evB_cnt, evB_ret, evB_ret0, evB_dead, evO_one, evI_one, evTs_nil, evTs_one, evB_rse0, evAnd_1, evOr_1, evTand_1, evTor_1, evAnd_2, evOr_2, evTand_2, evTor_2, rb_ok, rb_exc, rb_bad, oo_some, get_0, get_1, get_2, get_3, get_4, get_5, get_6, get_7, get_8, get_9, get_10, get_11, get_12, get_13, get_14, get_15, get_16, get_17, varP_v, varP_o, varS_v, if_true, if_false, Bool.false_eq_true, asgP_0, asgP_1, asgP_2, asgP_3, asgP_4, asgP_5, asgP_6, asgP_7, asgP_8, asgP_9, asgP_10, asgP_11, asgP_12, asgP_13, asgP_14, asgP_15, asgP_16, asgP_17, List.map_cons, List.map_nil, List.length_cons, List.length_nil, Nat.reduceAdd, Nat.reduceSub, List.replicate_succ, List.replicate_zero, List.cons_append, List.nil_append, Option.map_some, bi_mul (m_seed h0 h1 48271), bi_add, bl_int, bi_mod (show (0 : Int) < 2147483647 by omega), bi_div d5, hz, grd, List.set_cons_zero, List.set_cons_succ, snoc_map]
  subst i2
  refine ⟨env', e, ?_⟩
  simpa using i1
def DN (is : List Int) (n : Nat) (env : Cr.Env) : Prop := ∃ (ds : List Int) (seed num : Int) (x3 x4 : Sl), env = [.val (.ilst is), .own (.lst (ds.map .int)), .val (.int seed), x3, x4, .val (.int num)] ∧ ds.length ≤ n ∧ 0 ≤ seed ∧ seed < 2147483647 ∧ 0 ≤ num
theorem loop60 (j : Nat) (is : List Int) (n : Nat) (env : Cr.Env) (h : DN is n env) (hn : n ≤ 10000) : ∃ env', forL (fun d env dr => (ofO (asgP (.nm 4) d env) dr).bind fun env dr => evB (pr.at j) (.ifs (.cmp .gt (.var 5) (.int 0)) (.app 1 (.bin .mod (.blt .int (.cons (.var 5) .nil)) (.int 997)) (.asg (.nm 5) (.bin .fdiv (.var 5) (.int 997)) .done)) .done .done) env dr) ((List.range 60).map fun (k : Nat) => D.int (k : Int)) env [] = .ok (.nx env') [] ∧ DN is (n + 60) env' := by
  have d5 : divOk 997 = true := by decide +kernel
  obtain ⟨env', dr', e, ⟨i1, i2⟩⟩ := forL_nx (b := fun d env dr => (ofO (asgP (.nm 4) d env) dr).bind fun env dr => evB (pr.at j) (.ifs (.cmp .gt (.var 5) (.int 0)) (.app 1 (.bin .mod (.blt .int (.cons (.var 5) .nil)) (.int 997)) (.asg (.nm 5) (.bin .fdiv (.var 5) (.int 997)) .done)) .done .done) env dr) (fun i env dr => DN is (n + i) env ∧ dr = []) ((List.range 60).map fun (k : Nat) => D.int (k : Int)) 0 env [] ⟨h, rfl⟩ fun k d env dr hk hi => by
    obtain ⟨⟨ds, seed, num, x3, x4, rfl, hl, h0, h1, h2⟩, rfl⟩ := hi
    have hk2 : k < 60 := by
      have := (List.getElem?_eq_some_iff.mp hk).1
      simpa using this
    have hz : decide ((ds.map D.int).length < sizeLine) = true := sl16 (by rw [List.length_map]; omega)
    by_cases hp : 0 < num
    · refine ⟨[.val (.ilst is), .own (.lst ((ds ++ [num % 997]).map .int)), .val (.int seed), x3, .val d, .val (.int (num / 997))], [], .inl ?_, ⟨_, _, _, _, _, rfl, by rw [List.length_append]; simp; omega, h0, h1, by omega⟩, rfl⟩
      simp only [evE_var, evE_non, evE_bl, evE_int, evE_str, evE_glo, evE_fnv, evE_bin, evE_neg, evE_cmp, evE_cmp2, evE_isN, evE_notN, evE_and, evE_or, evE_not, evE_ife, evE_tup, evE_lst, evE_dicE, evE_call, evE_callv, evE_blt, evE_isi, evE_meth, evE_ix, evE_sl, evE_rev, evE_dpop, evE_dlen, evE_lrev, evT_not, evT_and, evT_or, evT_cmp, evT_cmp2, evT_isN, evT_notN, evT_call, evT_blt, evT_isi, evT_var, evT_ix, evL_nil, evL_cons, evL_scons, evLp_nil, evLp_cons, evO_nil, evI_rng, evI_enum, evI_zip, evI_items, evI_vals, evB_done, evB_ex, evB_asg, evB_own, evB_par, evB_par3, evB_aug, evB_app, evB_ext, evB_setI, evB_augI, evB_popS, evB_popD, evB_frz, evB_ifs, evB_brk, evB_cnt, evB_ret, evB_ret0, evB_dead, evO_one, evI_one, evTs_nil, evTs_one, evB_rse0, evAnd_1, evOr_1, evTand_1, evTor_1, evAnd_2, evOr_2, evTand_2, evTor_2, rb_ok, rb_exc, rb_bad, oo_some, get_0, get_1, get_2, get_3, get_4, get_5, get_6, get_7, get_8, get_9, get_10, get_11, get_12, get_13, get_14, get_15, get_16, get_17, varP_v, varP_o, varS_v, if_true, if_false, Bool.false_eq_true, asgP_0, asgP_1, asgP_2, asgP_3, asgP_4, asgP_5, asgP_6, asgP_7, asgP_8, asgP_9, asgP_10, asgP_11, asgP_12, asgP_13, asgP_14, asgP_15, asgP_16, asgP_17, List.map_cons, List.map_nil, List.length_cons, List.length_nil, Nat.reduceAdd, Nat.reduceSub, List.replicate_succ, List.replicate_zero, List.cons_append, List.nil_append, Option.map_some, cm_gt, decide_eq_true hp, bl_int, bi_mod (show (0 : Int) < 997 by omega), bi_div d5, hz, grd, List.set_cons_zero, List.set_cons_succ, snoc_map]
    · refine ⟨[.val (.ilst is), .own (.lst (ds.map .int)), .val (.int seed), x3, .val d, .val (.int num)], [], .inl ?_, ⟨_, _, _, _, _, rfl, by omega, h0, h1, h2⟩, rfl⟩
      simp only [evE_var, evE_non, evE_bl, evE_int, evE_str, evE_glo, evE_fnv, evE_bin, evE_neg, evE_cmp, evE_cmp2, evE_isN, evE_notN, evE_and, evE_or, evE_not, evE_ife, evE_tup, evE_lst, evE_dicE, evE_call, evE_callv, evE_blt, evE_isi, evE_meth, evE_ix, evE_sl, evE_rev, evE_dpop, evE_dlen, evE_lrev, evT_not, evT_and, evT_or, evT_cmp, evT_cmp2, evT_isN, evT_notN, evT_call, evT_blt, evT_isi, evT_var, evT_ix, evL_nil, evL_cons, evL_scons, evLp_nil, evLp_cons, evO_nil, evI_rng, evI_enum, evI_zip, evI_items, evI_vals, evB_done, evB_ex, evB_asg, evB_own, evB_par, evB_par3, evB_aug, evB_app, evB_ext, evB_setI, evB_augI, evB_popS, evB_popD, evB_frz, evB_ifs, evB_brk, evB_cnt, evB_ret, evB_ret0, evB_dead, evO_one, evI_one, evTs_nil, evTs_one, evB_rse0, evAnd_1, evOr_1, evTand_1, evTor_1, evAnd_2, evOr_2, evTand_2, evTor_2, rb_ok, rb_exc, rb_bad, oo_some, get_0, get_1, get_2, get_3, get_4, get_5, get_6, get_7, get_8, get_9, get_10, get_11, get_12, get_13, get_14, get_15, get_16, get_17, varP_v, varP_o, varS_v, if_true, if_false, Bool.false_eq_true, asgP_0, asgP_1, asgP_2, asgP_3, asgP_4, asgP_5, asgP_6, asgP_7, asgP_8, asgP_9, asgP_10, asgP_11, asgP_12, asgP_13, asgP_14, asgP_15, asgP_16, asgP_17, List.map_cons, List.map_nil, List.length_cons, List.length_nil, Nat.reduceAdd, Nat.reduceSub, List.replicate_succ, List.replicate_zero, List.cons_append, List.nil_append, Option.map_some, cm_gt, decide_eq_false hp]
  subst i2
  exact ⟨env', e, by simpa using i1⟩
theorem cell_ok (j : Nat) (is : List Int) (n : Nat) (c : Int) (env : Cr.Env) (h : DI is n env) (hn : n ≤ 9000) : ∃ env', ((ofO (asgP (.nm 3) (.int c) env) []).bind fun env dr => evB (pr.at j) (.asg (.nm 5) (.blt .abs (.cons (.blt .int (.cons (.var 3) .nil)) .nil)) (.asg (.nm 2) (.bin .mod (.blt .int (.cons (.bin .add (.bin .add (.bin .mul (.var 2) (.int 48271)) (.var 5)) (.int 1)) .nil)) (.int 2147483647)) (.ifs (.cmp .lt (.var 5) (.bin .pow (.int 10) (.int 18))) (.app 1 (.bin .mod (.blt .int (.cons (.var 5) .nil)) (.int 997)) (.app 1 (.bin .mod (.blt .int (.cons (.var 2) .nil)) (.int 65521)) (.asg (.nm 5) (.int 0) .done))) .done (.for_ (.nm 4) (.rng (.cons (.int 60) .nil)) (.ifs (.cmp .gt (.var 5) (.int 0)) (.app 1 (.bin .mod (.blt .int (.cons (.var 5) .nil)) (.int 997)) (.asg (.nm 5) (.bin .fdiv (.var 5) (.int 997)) .done)) .done .done) .done)))) env dr) = .ok (.nx env') [] ∧ DI is (n + 62) env' := by
  obtain ⟨ds, seed, x3, x4, x5, rfl, hl, h0, h1⟩ := h
  have hp : binD .pow (.int 10) (.int 18) = some (.int (10 ^ 18)) := by kernel_rfl
  have hz : decide ((ds.map D.int).length < sizeLine) = true := sl16 (by rw [List.length_map]; omega)
  have hz2 : ∀ x : Int, decide (((ds ++ [x]).map D.int).length < sizeLine) = true := fun x => sl16 (by rw [List.length_map, List.length_append]; simp; omega)
  have fin : ∀ env2, DN is (n + 2) env2 → ∃ env', evB (pr.at j) (.for_ (.nm 4) (.rng (.cons (.int 60) .nil)) (.ifs (.cmp .gt (.var 5) (.int 0)) (.app 1 (.bin .mod (.blt .int (.cons (.var 5) .nil)) (.int 997)) (.asg (.nm 5) (.bin .fdiv (.var 5) (.int 997)) .done)) .done .done) .done) env2 [] = .ok (.nx env') [] ∧ DI is (n + 62) env' := fun env2 h2 => by
    obtain ⟨env3, e3, i3⟩ := loop60 j is (n + 2) env2 h2 (by omega)
    have h5 : evE (pr.at j) (.int 60) true env2 [] = .ok (.int ((60 : Nat) : Int)) [] := evE_int _ _ _ _ _
    have hr := ev_rng1 (pk := false) (m := 60) (by omega) h5
    obtain ⟨ds, seed, num, x3, x4, rfl, q1, q2, q3, q4⟩ := i3
    exact ⟨_, by rw [ev_for_nx hr e3, evB_done], ds, seed, x3, x4, _, rfl, by omega, q2, q3⟩
  have habs : ∀ c : Int, 0 ≤ (if c < 0 then -c else c) := fun c => by split <;> omega
  have ha := habs c
  generalize hA : (if c < 0 then -c else c) = a at *
  by_cases hlt : a < 10 ^ 18
  · obtain ⟨env', e, i⟩ := fin [.val (.ilst is), .own (.lst (((ds ++ [a % 997]) ++ [(seed * 48271 + a + 1) % 2147483647 % 65521]).map .int)), .val (.int ((seed * 48271 + a + 1) % 2147483647)), .val (.int c), x4, .val (.int 0)] ⟨_, _, _, _, _, rfl, by simp; omega, by omega, by omega, by omega⟩
    refine ⟨env', ?_, i⟩
    simp only [evE_var, evE_non, evE_bl, evE_int, evE_str, evE_glo, evE_fnv, evE_bin, evE_neg, evE_cmp, evE_cmp2, evE_isN, evE_notN, evE_and, evE_or, evE_not, evE_ife, evE_tup, evE_lst, evE_dicE, evE_call, evE_callv, evE_blt, evE_isi, evE_meth, evE_ix, evE_sl, evE_rev, evE_dpop, evE_dlen, evE_lrev, evT_not, evT_and, evT_or, evT_cmp, evT_cmp2, evT_isN, evT_notN, evT_call, evT_blt, evT_isi, evT_var, evT_ix, evL_nil, evL_cons, evL_scons, evLp_nil, evLp_cons, evO_nil, evI_rng, evI_enum, evI_zip, evI_items, evI_vals, evB_done, evB_ex, evB_asg, evB_own, evB_par, evB_par3, evB_aug, evB_app, evB_ext, evB_setI, evB_augI, evB_popS, evB_popD, evB_frz, evB_ifs, evB_brk, evB_cnt, evB_ret, evB_ret0, evB_dead, evO_one, evI_one, evTs_nil, evTs_one, evB_rse0, evAnd_1, evOr_1, evTand_1, evTor_1, evAnd_2, evOr_2, evTand_2, evTor_2, rb_ok, rb_exc, rb_bad, oo_some, get_0, get_1, get_2, get_3, get_4, get_5, get_6, get_7, get_8, get_9, get_10, get_11, get_12, get_13, get_14, get_15, get_16, get_17, varP_v, varP_o, varS_v, if_true, if_false, Bool.false_eq_true, asgP_0, asgP_1, asgP_2, asgP_3, asgP_4, asgP_5, asgP_6, asgP_7, asgP_8, asgP_9, asgP_10, asgP_11, asgP_12, asgP_13, asgP_14, asgP_15, asgP_16, asgP_17, List.map_cons, List.map_nil, List.length_cons, List.length_nil, Nat.reduceAdd, Nat.reduceSub, List.replicate_succ, List.replicate_zero, List.cons_append, List.nil_append, Option.map_some, bl_int, bl_abs, hA, bi_mul (m_seed h0 h1 48271), bi_add, bi_mod (show (0 : Int) < 2147483647 by omega), hp, cm_lt, decide_eq_true hlt, bi_mod (show (0 : Int) < 997 by omega), bi_mod (show (0 : Int) < 65521 by omega), hz, hz2, grd, List.set_cons_zero, List.set_cons_succ, snoc_map]
    exact e
  · obtain ⟨env', e, i⟩ := fin [.val (.ilst is), .own (.lst (ds.map .int)), .val (.int ((seed * 48271 + a + 1) % 2147483647)), .val (.int c), x4, .val (.int a)] ⟨_, _, _, _, _, rfl, by omega, by omega, by omega, ha⟩
    refine ⟨env', ?_, i⟩
    simp only [evE_var, evE_non, evE_bl, evE_int, evE_str, evE_glo, evE_fnv, evE_bin, evE_neg, evE_cmp, evE_cmp2, evE_isN, evE_notN, evE_and, evE_or, evE_not, evE_ife, evE_tup, evE_lst, evE_dicE, evE_call, evE_callv, evE_blt, evE_isi, evE_meth, evE_ix, evE_sl, evE_rev, evE_dpop, evE_dlen, evE_lrev, evT_not, evT_and, evT_or, evT_cmp, evT_cmp2, evT_isN, evT_notN, evT_call, evT_blt, evT_isi, evT_var, evT_ix, evL_nil, evL_cons, evL_scons, evLp_nil, evLp_cons, evO_nil, evI_rng, evI_enum, evI_zip, evI_items, evI_vals, evB_done, evB_ex, evB_asg, evB_own, evB_par, evB_par3, evB_aug, evB_app, evB_ext, evB_setI, evB_augI, evB_popS, evB_popD, evB_frz, evB_ifs, evB_brk, evB_cnt, evB_ret, evB_ret0, evB_dead, evO_one, evI_one, evTs_nil, evTs_one, evB_rse0, evAnd_1, evOr_1, evTand_1, evTor_1, evAnd_2, evOr_2, evTand_2, evTor_2, rb_ok, rb_exc, rb_bad, oo_some, get_0, get_1, get_2, get_3, get_4, get_5, get_6, get_7, get_8, get_9, get_10, get_11, get_12, get_13, get_14, get_15, get_16, get_17, varP_v, varP_o, varS_v, if_true, if_false, Bool.false_eq_true, asgP_0, asgP_1, asgP_2, asgP_3, asgP_4, asgP_5, asgP_6, asgP_7, asgP_8, asgP_9, asgP_10, asgP_11, asgP_12, asgP_13, asgP_14, asgP_15, asgP_16, asgP_17, List.map_cons, List.map_nil, List.length_cons, List.length_nil, Nat.reduceAdd, Nat.reduceSub, List.replicate_succ, List.replicate_zero, List.cons_append, List.nil_append, Option.map_some, bl_int, bl_abs, hA, bi_mul (m_seed h0 h1 48271), bi_add, bi_mod (show (0 : Int) < 2147483647 by omega), hp, cm_lt, decide_eq_false hlt]
    exact e
theorem hd (is : List Int) (hl : is.length ≤ 63) : ∃ js : List Int, callD (pr.at 20) dd__law_draws.N.length dd__law_draws.body [.ilst is] [] = .ok (.lst (js.map .int)) [] := by
  have hz0 : szOk 0 = true := sz_le (m := 10) (by omega) (by omega)
  have i0 : DI is 0 [.val (.ilst is), .own (.lst (([] : List Int).map .int)), .val (.int 11), .no, .no, .no] := ⟨[], 11, .no, .no, .no, rfl, by simp, by omega, by omega⟩
  obtain ⟨env1, dr1, e1, ⟨i1, r1⟩⟩ := forL_nx (b := fun d env dr => (ofO (asgP (.nm 3) d env) dr).bind fun env dr => evB (pr.at 20) (.asg (.nm 5) (.blt .abs (.cons (.blt .int (.cons (.var 3) .nil)) .nil)) (.asg (.nm 2) (.bin .mod (.blt .int (.cons (.bin .add (.bin .add (.bin .mul (.var 2) (.int 48271)) (.var 5)) (.int 1)) .nil)) (.int 2147483647)) (.ifs (.cmp .lt (.var 5) (.bin .pow (.int 10) (.int 18))) (.app 1 (.bin .mod (.blt .int (.cons (.var 5) .nil)) (.int 997)) (.app 1 (.bin .mod (.blt .int (.cons (.var 2) .nil)) (.int 65521)) (.asg (.nm 5) (.int 0) .done))) .done (.for_ (.nm 4) (.rng (.cons (.int 60) .nil)) (.ifs (.cmp .gt (.var 5) (.int 0)) (.app 1 (.bin .mod (.blt .int (.cons (.var 5) .nil)) (.int 997)) (.asg (.nm 5) (.bin .fdiv (.var 5) (.int 997)) .done)) .done .done) .done)))) env dr) (fun i env dr => DI is (62 * i) env ∧ dr = []) (is.map D.int) 0 _ [] ⟨i0, rfl⟩ fun k d env dr hk hi => by
    obtain ⟨hi, rfl⟩ := hi
    have hk2 : k < is.length := by
      have := (List.getElem?_eq_some_iff.mp hk).1
      simpa using this
    rw [List.getElem?_map, List.getElem?_eq_getElem hk2] at hk
    cases (show some (D.int is[k]) = some d from hk)
    obtain ⟨env', e, i'⟩ := cell_ok 20 is (62 * (0 + k)) is[k] env hi (by omega)
    exact ⟨env', [], .inl e, by rw [show 62 * (0 + k + 1) = 62 * (0 + k) + 62 by omega]; exact i', rfl⟩
  subst r1
  rw [List.length_map] at i1
  obtain ⟨env2, e2, i2⟩ := last_loop 20 is (62 * (0 + is.length)) env1 i1 (by omega)
  obtain ⟨ds, seed, x3, x4, x5, rfl, hds, _, _⟩ := i2
  refine ⟨ds.reverse, ?_⟩
  show callD (pr.at 20) 6 b__law_draws [.ilst is] [] = _
  refine call_ret (by simp) ?_
  unfold b__law_draws
  have h7 : evE (pr.at 20) (.int 700) true env1 [] = .ok (.int ((700 : Nat) : Int)) [] := evE_int _ _ _ _ _
  have hr := ev_rng1 (pk := false) (m := 700) (by omega) h7
  have hi : evI (pr.at 20) (.cons (.var 0) .nil) false [.val (.ilst is), .own (.lst (([] : List Int).map .int)), .val (.int 11), .no, .no, .no] [] = .ok (is.map .int) [] := by
    simp only [evE_var, evE_non, evE_bl, evE_int, evE_str, evE_glo, evE_fnv, evE_bin, evE_neg, evE_cmp, evE_cmp2, evE_isN, evE_notN, evE_and, evE_or, evE_not, evE_ife, evE_tup, evE_lst, evE_dicE, evE_call, evE_callv, evE_blt, evE_isi, evE_meth, evE_ix, evE_sl, evE_rev, evE_dpop, evE_dlen, evE_lrev, evT_not, evT_and, evT_or, evT_cmp, evT_cmp2, evT_isN, evT_notN, evT_call, evT_blt, evT_isi, evT_var, evT_ix, evL_nil, evL_cons, evL_scons, evLp_nil, evLp_cons, evO_nil, evI_rng, evI_enum, evI_zip, evI_items, evI_vals, evB_done, evB_ex, evB_asg, evB_own, evB_par, evB_par3, evB_aug, evB_app, evB_ext, evB_setI, evB_augI, evB_popS, evB_popD, evB_frz, evB_ifs, evB_brk, evB_cnt, evB_ret, evB_ret0, evB_dead, evO_one, evI_one, evTs_nil, evTs_one, evB_rse0, evAnd_1, evOr_1, evTand_1, evTor_1, evAnd_2, evOr_2, evTand_2, evTor_2, rb_ok, rb_exc, rb_bad, oo_some, get_0, get_1, get_2, get_3, get_4, get_5, get_6, get_7, get_8, get_9, get_10, get_11, get_12, get_13, get_14, get_15, get_16, get_17, varP_v, varP_o, varS_v, if_true, if_false, Bool.false_eq_true, asgP_0, asgP_1, asgP_2, asgP_3, asgP_4, asgP_5, asgP_6, asgP_7, asgP_8, asgP_9, asgP_10, asgP_11, asgP_12, asgP_13, asgP_14, asgP_15, asgP_16, asgP_17, List.map_cons, List.map_nil, List.length_cons, List.length_nil, Nat.reduceAdd, Nat.reduceSub, List.replicate_succ, List.replicate_zero, List.cons_append, List.nil_append, Option.map_some, evI_one, show (false = true) = False from by simp]
    rfl
  simp only [evE_var, evE_non, evE_bl, evE_int, evE_str, evE_glo, evE_fnv, evE_bin, evE_neg, evE_cmp, evE_cmp2, evE_isN, evE_notN, evE_and, evE_or, evE_not, evE_ife, evE_tup, evE_lst, evE_dicE, evE_call, evE_callv, evE_blt, evE_isi, evE_meth, evE_ix, evE_sl, evE_rev, evE_dpop, evE_dlen, evE_lrev, evT_not, evT_and, evT_or, evT_cmp, evT_cmp2, evT_isN, evT_notN, evT_call, evT_blt, evT_isi, evT_var, evT_ix, evL_nil, evL_cons, evL_scons, evLp_nil, evLp_cons, evO_nil, evI_rng, evI_enum, evI_zip, evI_items, evI_vals, evB_done, evB_ex, evB_asg, evB_own, evB_par, evB_par3, evB_aug, evB_app, evB_ext, evB_setI, evB_augI, evB_popS, evB_popD, evB_frz, evB_ifs, evB_brk, evB_cnt, evB_ret, evB_ret0, evB_dead, evO_one, evI_one, evTs_nil, evTs_one, evB_rse0, evAnd_1, evOr_1, evTand_1, evTor_1, evAnd_2, evOr_2, evTand_2, evTor_2, rb_ok, rb_exc, rb_bad, oo_some, get_0, get_1, get_2, get_3, get_4, get_5, get_6, get_7, get_8, get_9, get_10, get_11, get_12, get_13, get_14, get_15, get_16, get_17, varP_v, varP_o, varS_v, if_true, if_false, Bool.false_eq_true, asgP_0, asgP_1, asgP_2, asgP_3, asgP_4, asgP_5, asgP_6, asgP_7, asgP_8, asgP_9, asgP_10, asgP_11, asgP_12, asgP_13, asgP_14, asgP_15, asgP_16, asgP_17, List.map_cons, List.map_nil, List.length_cons, List.length_nil, Nat.reduceAdd, Nat.reduceSub, List.replicate_succ, List.replicate_zero, List.cons_append, List.nil_append, Option.map_some, hz0, grd, freshD, Option.bind_some]
  rw [setSl_i (by simp), oo_some, rb_ok]
  have key := (ev_for_nx (k := .for_ (.nm 4) (.rng (.cons (.int 700) .nil)) (.asg (.nm 2) (.bin .mod (.blt .int (.cons (.bin .add (.bin .mul (.var 2) (.int 48271)) (.int 69621)) .nil)) (.int 2147483647)) (.app 1 (.bin .fdiv (.var 2) (.int 5)) .done)) (.ret (.lrev (.var 1)))) hi e1).trans (ev_for_nx (k := .ret (.lrev (.var 1))) hr e2)
  have last : evB (pr.at 20) (.ret (.lrev (.var 1))) [.val (.ilst is), .own (.lst (ds.map .int)), .val (.int seed), x3, x4, x5] [] = .ok (.rt (.lst (ds.reverse.map .int))) [] := by
    simp only [evE_var, evE_non, evE_bl, evE_int, evE_str, evE_glo, evE_fnv, evE_bin, evE_neg, evE_cmp, evE_cmp2, evE_isN, evE_notN, evE_and, evE_or, evE_not, evE_ife, evE_tup, evE_lst, evE_dicE, evE_call, evE_callv, evE_blt, evE_isi, evE_meth, evE_ix, evE_sl, evE_rev, evE_dpop, evE_dlen, evE_lrev, evT_not, evT_and, evT_or, evT_cmp, evT_cmp2, evT_isN, evT_notN, evT_call, evT_blt, evT_isi, evT_var, evT_ix, evL_nil, evL_cons, evL_scons, evLp_nil, evLp_cons, evO_nil, evI_rng, evI_enum, evI_zip, evI_items, evI_vals, evB_done, evB_ex, evB_asg, evB_own, evB_par, evB_par3, evB_aug, evB_app, evB_ext, evB_setI, evB_augI, evB_popS, evB_popD, evB_frz, evB_ifs, evB_brk, evB_cnt, evB_ret, evB_ret0, evB_dead, evO_one, evI_one, evTs_nil, evTs_one, evB_rse0, evAnd_1, evOr_1, evTand_1, evTor_1, evAnd_2, evOr_2, evTand_2, evTor_2, rb_ok, rb_exc, rb_bad, oo_some, get_0, get_1, get_2, get_3, get_4, get_5, get_6, get_7, get_8, get_9, get_10, get_11, get_12, get_13, get_14, get_15, get_16, get_17, varP_v, varP_o, varS_v, if_true, if_false, Bool.false_eq_true, asgP_0, asgP_1, asgP_2, asgP_3, asgP_4, asgP_5, asgP_6, asgP_7, asgP_8, asgP_9, asgP_10, asgP_11, asgP_12, asgP_13, asgP_14, asgP_15, asgP_16, asgP_17, List.map_cons, List.map_nil, List.length_cons, List.length_nil, Nat.reduceAdd, Nat.reduceSub, List.replicate_succ, List.replicate_zero, List.cons_append, List.nil_append, Option.map_some, List.map_reverse]
  exact key.trans last
end K07
namespace K07
open PySem PySem.Spec PyProof.Rows L2 Cr
def topS (i : Nat) : Stmt := PySem.Challenge.pw_pinnedtunes_k07_whole_strips_with_and_wi.main.body.getD i (.Pass ⟨0, 0, 0, 0⟩)
abbrev s_is_integer : Stmt := topS 7
def d_is_integer : He.DefD := ⟨("is_integer", none), "is_integer", "is_integer", defArgs s_is_integer, defBody s_is_integer, defScope s_is_integer, [], []⟩
abbrev s_is_within : Stmt := topS 8
def d_is_within : He.DefD := ⟨("is_within", none), "is_within", "is_within", defArgs s_is_within, defBody s_is_within, defScope s_is_within, [], []⟩
abbrev s_check : Stmt := topS 9
def d_check : He.DefD := ⟨("check", none), "check", "check", defArgs s_check, defBody s_check, defScope s_check, [], []⟩
abbrev s_is_row : Stmt := topS 15
def d_is_row : He.DefD := ⟨("is_row", none), "is_row", "is_row", defArgs s_is_row, defBody s_is_row, defScope s_is_row, [], []⟩
abbrev s_is_roll : Stmt := topS 16
def d_is_roll : He.DefD := ⟨("is_roll", none), "is_roll", "is_roll", defArgs s_is_roll, defBody s_is_roll, defScope s_is_roll, [], []⟩
abbrev s_check_roll : Stmt := topS 17
def d_check_roll : He.DefD := ⟨("check_roll", none), "check_roll", "check_roll", defArgs s_check_roll, defBody s_check_roll, defScope s_check_roll, [], []⟩
abbrev s_glued : Stmt := topS 18
def d_glued : He.DefD := ⟨("glued", none), "glued", "glued", defArgs s_glued, defBody s_glued, defScope s_glued, [], []⟩
abbrev s_over : Stmt := topS 19
def d_over : He.DefD := ⟨("over", none), "over", "over", defArgs s_over, defBody s_over, defScope s_over, [], []⟩
abbrev s_turned_over : Stmt := topS 20
def d_turned_over : He.DefD := ⟨("turned_over", none), "turned_over", "turned_over", defArgs s_turned_over, defBody s_turned_over, defScope s_turned_over, [], []⟩
abbrev s_round_of : Stmt := topS 21
def d_round_of : He.DefD := ⟨("round_of", none), "round_of", "round_of", defArgs s_round_of, defBody s_round_of, defScope s_round_of, [], []⟩
abbrev s_strip_rows : Stmt := topS 22
def d_strip_rows : He.DefD := ⟨("strip_rows", none), "strip_rows", "strip_rows", defArgs s_strip_rows, defBody s_strip_rows, defScope s_strip_rows, [], []⟩
abbrev s_strip_period : Stmt := topS 23
def d_strip_period : He.DefD := ⟨("strip_period", none), "strip_period", "strip_period", defArgs s_strip_period, defBody s_strip_period, defScope s_strip_period, [], []⟩
abbrev s__law_draws : Stmt := topS 25
def d__law_draws : He.DefD := ⟨("_law_draws", none), "_law_draws", "_law_draws", defArgs s__law_draws, defBody s__law_draws, defScope s__law_draws, [], []⟩
abbrev s__law_take : Stmt := topS 26
def d__law_take : He.DefD := ⟨("_law_take", none), "_law_take", "_law_take", defArgs s__law_take, defBody s__law_take, defScope s__law_take, [], []⟩
abbrev s__law_pick : Stmt := topS 27
def d__law_pick : He.DefD := ⟨("_law_pick", none), "_law_pick", "_law_pick", defArgs s__law_pick, defBody s__law_pick, defScope s__law_pick, [], []⟩
abbrev s__law_same : Stmt := topS 28
def d__law_same : He.DefD := ⟨("_law_same", none), "_law_same", "_law_same", defArgs s__law_same, defBody s__law_same, defScope s__law_same, [], []⟩
abbrev s__law_roll : Stmt := topS 30
def d__law_roll : He.DefD := ⟨("_law_roll", none), "_law_roll", "_law_roll", defArgs s__law_roll, defBody s__law_roll, defScope s__law_roll, [], []⟩
abbrev s__law_row : Stmt := topS 31
def d__law_row : He.DefD := ⟨("_law_row", none), "_law_row", "_law_row", defArgs s__law_row, defBody s__law_row, defScope s__law_row, [], []⟩
abbrev s__law_period : Stmt := topS 32
def d__law_period : He.DefD := ⟨("_law_period", none), "_law_period", "_law_period", defArgs s__law_period, defBody s__law_period, defScope s__law_period, [], []⟩
abbrev s__law_told : Stmt := topS 33
def d__law_told : He.DefD := ⟨("_law_told", none), "_law_told", "_law_told", defArgs s__law_told, defBody s__law_told, defScope s__law_told, [], []⟩
abbrev s_law : Stmt := topS 34
def d_law : He.DefD := ⟨("law", none), "law", "law", defArgs s_law, defBody s_law, defScope s_law, [], []⟩
abbrev s__law_flags : Stmt := topS 29
def d__law_flags : He.DefD := ⟨("_law_flags", none), "_law_flags", "_law_flags", defArgs s__law_flags, defBody s__law_flags, defScope s__law_flags, [], []⟩
def fns : List He.DefD := [d_is_integer, d_is_within, d_check, d_is_row, d_is_roll, d_check_roll, d_glued, d_over, d_turned_over, d_round_of, d_strip_rows, d_strip_period, d__law_draws, d__law_take, d__law_pick, d__law_same, d__law_roll, d__law_row, d__law_period, d__law_told, d_law, d__law_flags]
def fas : List He.Fa := .glo "law" :: faOf pr
theorem fsc {N ps : List Str} {s : Stmt} (h : (decide ((defScope s).kind = .function) && !(defScope s).isCoroutine && !(defScope s).isGenerator && decide N.Nodup && decide (N.take ps.length = ps) && ps.all (fun x => decide ((defScope s).names.lookup x = some .local) || decide ((defScope s).names.lookup x = some .cell)) && (defScope s).names.all (fun y => !decide (y.2 = .free))) = true) : FnScope N ps (defScope s) := by
  simp only [Bool.and_eq_true, decide_eq_true_eq, Bool.not_eq_true', List.all_eq_true, Bool.or_eq_true, decide_eq_false_iff_not] at h
  obtain ⟨⟨⟨⟨⟨⟨h1, h2⟩, h3⟩, h4⟩, h5⟩, h6⟩, h7⟩ := h
  exact ⟨h1, h2, h3, h4, h5, h6, h7⟩
theorem r_is_integer : RowOk pr dd_is_integer d_is_integer := ⟨rfl, rfl, rfl, rfl, rfl, @fsc dd_is_integer.N (dd_is_integer.N.take dd_is_integer.n) s_is_integer (by decide +kernel), fun _ _ _ _ _ _ us hl => match us, hl with | [_], _ => rfl, by decide +kernel, by decide⟩
theorem r_is_within : RowOk pr dd_is_within d_is_within := ⟨rfl, rfl, rfl, rfl, rfl, @fsc dd_is_within.N (dd_is_within.N.take dd_is_within.n) s_is_within (by decide +kernel), fun _ _ _ _ _ _ us hl => match us, hl with | [_, _, _], _ => rfl, by decide +kernel, by decide⟩
theorem r_check : RowOk pr dd_check d_check := ⟨rfl, rfl, rfl, rfl, rfl, @fsc dd_check.N (dd_check.N.take dd_check.n) s_check (by decide +kernel), fun _ _ _ _ _ _ us hl => match us, hl with | [_], _ => rfl, by decide +kernel, by decide⟩
theorem r_is_row : RowOk pr dd_is_row d_is_row := ⟨rfl, rfl, rfl, rfl, rfl, @fsc dd_is_row.N (dd_is_row.N.take dd_is_row.n) s_is_row (by decide +kernel), fun _ _ _ _ _ _ us hl => match us, hl with | [_, _], _ => rfl, by decide +kernel, by decide⟩
theorem r_is_roll : RowOk pr dd_is_roll d_is_roll := ⟨rfl, rfl, rfl, rfl, rfl, @fsc dd_is_roll.N (dd_is_roll.N.take dd_is_roll.n) s_is_roll (by decide +kernel), fun _ _ _ _ _ _ us hl => match us, hl with | [_], _ => rfl, by decide +kernel, by decide⟩
theorem r_check_roll : RowOk pr dd_check_roll d_check_roll := ⟨rfl, rfl, rfl, rfl, rfl, @fsc dd_check_roll.N (dd_check_roll.N.take dd_check_roll.n) s_check_roll (by decide +kernel), fun _ _ _ _ _ _ us hl => match us, hl with | [_], _ => rfl, by decide +kernel, by decide⟩
theorem r_glued : RowOk pr dd_glued d_glued := ⟨rfl, rfl, rfl, rfl, rfl, @fsc dd_glued.N (dd_glued.N.take dd_glued.n) s_glued (by decide +kernel), fun _ _ _ _ _ _ us hl => match us, hl with | [_, _], _ => rfl, by decide +kernel, by decide⟩
theorem r_over : RowOk pr dd_over d_over := ⟨rfl, rfl, rfl, rfl, rfl, @fsc dd_over.N (dd_over.N.take dd_over.n) s_over (by decide +kernel), fun _ _ _ _ _ _ us hl => match us, hl with | [_], _ => rfl, by decide +kernel, by decide⟩
theorem r_turned_over : RowOk pr dd_turned_over d_turned_over := ⟨rfl, rfl, rfl, rfl, rfl, @fsc dd_turned_over.N (dd_turned_over.N.take dd_turned_over.n) s_turned_over (by decide +kernel), fun _ _ _ _ _ _ us hl => match us, hl with | [_], _ => rfl, by decide +kernel, by decide⟩
theorem r_round_of : RowOk pr dd_round_of d_round_of := ⟨rfl, rfl, rfl, rfl, rfl, @fsc dd_round_of.N (dd_round_of.N.take dd_round_of.n) s_round_of (by decide +kernel), fun _ _ _ _ _ _ us hl => match us, hl with | [_, _], _ => rfl, by decide +kernel, by decide⟩
theorem r_strip_rows : RowOk pr dd_strip_rows d_strip_rows := ⟨rfl, rfl, rfl, rfl, rfl, @fsc dd_strip_rows.N (dd_strip_rows.N.take dd_strip_rows.n) s_strip_rows (by decide +kernel), fun _ _ _ _ _ _ us hl => match us, hl with | [_, _, _], _ => rfl, by decide +kernel, by decide⟩
theorem r_strip_period : RowOk pr dd_strip_period d_strip_period := ⟨rfl, rfl, rfl, rfl, rfl, @fsc dd_strip_period.N (dd_strip_period.N.take dd_strip_period.n) s_strip_period (by decide +kernel), fun _ _ _ _ _ _ us hl => match us, hl with | [_, _], _ => rfl, by decide +kernel, by decide⟩
theorem r__law_draws : RowOk pr dd__law_draws d__law_draws := ⟨rfl, rfl, rfl, rfl, rfl, @fsc dd__law_draws.N (dd__law_draws.N.take dd__law_draws.n) s__law_draws (by decide +kernel), fun _ _ _ _ _ _ us hl => match us, hl with | [_], _ => rfl, by decide +kernel, by decide⟩
theorem r__law_take : RowOk pr dd__law_take d__law_take := ⟨rfl, rfl, rfl, rfl, rfl, @fsc dd__law_take.N (dd__law_take.N.take dd__law_take.n) s__law_take (by decide +kernel), fun _ _ _ _ _ _ us hl => match us, hl with | [_, _], _ => rfl, by decide +kernel, by decide⟩
theorem r__law_pick : RowOk pr dd__law_pick d__law_pick := ⟨rfl, rfl, rfl, rfl, rfl, @fsc dd__law_pick.N (dd__law_pick.N.take dd__law_pick.n) s__law_pick (by decide +kernel), fun _ _ _ _ _ _ us hl => match us, hl with | [_, _], _ => rfl, by decide +kernel, by decide⟩
theorem r__law_same : RowOk pr dd__law_same d__law_same := ⟨rfl, rfl, rfl, rfl, rfl, @fsc dd__law_same.N (dd__law_same.N.take dd__law_same.n) s__law_same (by decide +kernel), fun _ _ _ _ _ _ us hl => match us, hl with | [_, _], _ => rfl, by decide +kernel, by decide⟩
theorem r__law_roll : RowOk pr dd__law_roll d__law_roll := ⟨rfl, rfl, rfl, rfl, rfl, @fsc dd__law_roll.N (dd__law_roll.N.take dd__law_roll.n) s__law_roll (by decide +kernel), fun _ _ _ _ _ _ us hl => match us, hl with | [_], _ => rfl, by decide +kernel, by decide⟩
theorem r__law_row : RowOk pr dd__law_row d__law_row := ⟨rfl, rfl, rfl, rfl, rfl, @fsc dd__law_row.N (dd__law_row.N.take dd__law_row.n) s__law_row (by decide +kernel), fun _ _ _ _ _ _ us hl => match us, hl with | [_, _, _], _ => rfl, by decide +kernel, by decide⟩
theorem r__law_period : RowOk pr dd__law_period d__law_period := ⟨rfl, rfl, rfl, rfl, rfl, @fsc dd__law_period.N (dd__law_period.N.take dd__law_period.n) s__law_period (by decide +kernel), fun _ _ _ _ _ _ us hl => match us, hl with | [_, _], _ => rfl, by decide +kernel, by decide⟩
theorem r__law_told : RowOk pr dd__law_told d__law_told := ⟨rfl, rfl, rfl, rfl, rfl, @fsc dd__law_told.N (dd__law_told.N.take dd__law_told.n) s__law_told (by decide +kernel), fun _ _ _ _ _ _ us hl => match us, hl with | [_, _, _, _], _ => rfl, by decide +kernel, by decide⟩
theorem r__law_flags : FlgOk ("_law_flags", "e", ["NotRight", "NotThere", "NoAnswer", "TooLarge", "Malformed"]) d__law_flags := ⟨rfl, rfl, rfl, rfl, rfl, @fsc [("e" : Str)] [("e" : Str)] s__law_flags (by decide +kernel), fun _ _ _ _ _ _ us hl => match us, hl with | [_], _ => rfl, by decide +kernel, by decide +kernel, by decide +kernel, by decide +kernel⟩
abbrev R : PySem.W.OpenRow := PySem.W.OpenLaw.row PySem.Challenge.rw_pinnedtunes_k07_whole_strips_with_and_wi
abbrev hk : PySem.W.Hook := He.hookX 4 fas fns [] [] (exB pr)
def ob (s : PySem.W.SharedT) : He.AlX := He.obsX 4 fas fns [] [] (exB pr) (HandSHeadRun.getT s)
theorem ob_eq (s : PySem.W.SharedT) : ob s = hk.obs s.abs := He.obsX_eq (HandSHeadRun.getT_eq s)
def nms : List PySem.Str := ["TuneError", "NotRight", "NotThere", "NoAnswer", "TooLarge", "Malformed", "is_integer", "is_within", "check", "MOST_ROWS", "WIDEST", "MOST_PLAYED", "SIGNS", "is_row", "is_roll", "check_roll", "glued", "over", "turned_over", "round_of", "strip_rows", "strip_period", "_law_draws", "_law_take", "_law_pick", "_law_same", "_law_flags", "_law_roll", "_law_row", "_law_period", "_law_told"]
theorem run (w : World) : HandSHeadRun.RunEq R (PySem.W.view R.prog [34]) hk ob 4000 nms w := by
  intro os
  kernel_rfl
theorem ok_of {K : PySem.W.Frag} {h : Heap} {mg : Str → Option Value} (X : K.In h) (G : h.Ns mainGlobals mg) {w : World} (c : He.SaysX fas fns [] [] (exB pr) w h K) : PrOk pr K mg := by
  have cd := He.SaysT.d c.t
  refine prOk_of X G (fun f hf => cd.facts (List.mem_cons_of_mem _ hf)) c.more ?_ ?_ (by decide +kernel) (by decide +kernel) (by decide +kernel)
  · exact (List.forall_mem_cons.mpr ⟨⟨d_is_integer, r_is_integer, cd.def_ 0 (d := d_is_integer)⟩, (List.forall_mem_cons.mpr ⟨⟨d_is_within, r_is_within, cd.def_ 1 (d := d_is_within)⟩, (List.forall_mem_cons.mpr ⟨⟨d_check, r_check, cd.def_ 2 (d := d_check)⟩, (List.forall_mem_cons.mpr ⟨⟨d_is_row, r_is_row, cd.def_ 3 (d := d_is_row)⟩, (List.forall_mem_cons.mpr ⟨⟨d_is_roll, r_is_roll, cd.def_ 4 (d := d_is_roll)⟩, (List.forall_mem_cons.mpr ⟨⟨d_check_roll, r_check_roll, cd.def_ 5 (d := d_check_roll)⟩, (List.forall_mem_cons.mpr ⟨⟨d_glued, r_glued, cd.def_ 6 (d := d_glued)⟩, (List.forall_mem_cons.mpr ⟨⟨d_over, r_over, cd.def_ 7 (d := d_over)⟩, (List.forall_mem_cons.mpr ⟨⟨d_turned_over, r_turned_over, cd.def_ 8 (d := d_turned_over)⟩, (List.forall_mem_cons.mpr ⟨⟨d_round_of, r_round_of, cd.def_ 9 (d := d_round_of)⟩, (List.forall_mem_cons.mpr ⟨⟨d_strip_rows, r_strip_rows, cd.def_ 10 (d := d_strip_rows)⟩, (List.forall_mem_cons.mpr ⟨⟨d_strip_period, r_strip_period, cd.def_ 11 (d := d_strip_period)⟩, (List.forall_mem_cons.mpr ⟨⟨d__law_draws, r__law_draws, cd.def_ 12 (d := d__law_draws)⟩, (List.forall_mem_cons.mpr ⟨⟨d__law_take, r__law_take, cd.def_ 13 (d := d__law_take)⟩, (List.forall_mem_cons.mpr ⟨⟨d__law_pick, r__law_pick, cd.def_ 14 (d := d__law_pick)⟩, (List.forall_mem_cons.mpr ⟨⟨d__law_same, r__law_same, cd.def_ 15 (d := d__law_same)⟩, (List.forall_mem_cons.mpr ⟨⟨d__law_roll, r__law_roll, cd.def_ 16 (d := d__law_roll)⟩, (List.forall_mem_cons.mpr ⟨⟨d__law_row, r__law_row, cd.def_ 17 (d := d__law_row)⟩, (List.forall_mem_cons.mpr ⟨⟨d__law_period, r__law_period, cd.def_ 18 (d := d__law_period)⟩, (List.forall_mem_cons.mpr ⟨⟨d__law_told, r__law_told, cd.def_ 19 (d := d__law_told)⟩, (fun _ h => nomatch h)⟩)⟩)⟩)⟩)⟩)⟩)⟩)⟩)⟩)⟩)⟩)⟩)⟩)⟩)⟩)⟩)⟩)⟩)⟩)⟩)
  · exact (List.forall_mem_cons.mpr ⟨⟨d__law_flags, r__law_flags, cd.def_ 21 (d := d__law_flags)⟩, (fun _ h => nomatch h)⟩)
theorem sc_law : FnScope dd_law.N (dd_law.N.take dd_law.n) (defScope s_law) := @fsc dd_law.N (dd_law.N.take dd_law.n) s_law (by decide +kernel)
def rest : List Stmt := (defBody s_law).drop 1
theorem facts {P : Program} {w : World} {K : PySem.W.Frag} {h : Heap} {mg : Str → Option Value} {f : Addr} (X : K.In h) (G : h.Ns mainGlobals mg) (hfa : mg ("law" : Str) = some (.ref f)) (c : He.SaysX fas fns [] [] (exB pr) w h K)
    (hd : ∀ is : List Int, is.length ≤ 63 → ∃ js : List Int, callD (pr.at 20) dd__law_draws.N.length dd__law_draws.body [.ilst is] [] = .ok (.lst (js.map .int)) [])
    (hl : ∀ js : List Int, ∃ dr', evB (pr.at 21) dd_law.body (.no :: .val .drw :: List.replicate (dd_law.N.length - 2) .no) js.reverse = .ok (.rt (.bl true)) dr') :
    ∃ fd : FuncData, (∀ (s : Shared) (v : Value), BindsTo s fd ⟨[v], []⟩ [(("script" : Str), v)]) ∧ ∀ base : Heap, K.In base → base.Ns mainGlobals mg → FnOk P w K mg base L2.CX0 23 f fd [("script" : Str)] (spLaw K) := by
  have ok := ok_of X G c
  obtain ⟨fd, F⟩ := (He.SaysT.d c.t).def_ 20 (d := d_law)
  have e := hfa.symm.trans (He.glo_ok X G ((He.SaysT.d c.t).facts (f := .glo "law") List.mem_cons_self))
  cases e
  have b := FunD.bindsA (ps := [("script" : Str)]) F fun _ _ _ _ _ _ us hl => match us, hl with | [_], _ => rfl
  exact ⟨fd, fun s v => b s [v] rfl, fun base _ _ => law_ok0 (law_ok (d := dd_law) ok (dd := dd__law_draws) (by unfold pr; simp) rfl rfl F sc_law rfl (by decide +kernel) (rest := rest) (by kernel_rfl) (by decide +kernel) 20 hd hl)⟩
end K07
open PySem PySem.W PySem.Calls PyProof.Rows
theorem PySem.Challenge.cw_pinnedtunes_k07_whole_strips_with_and_wi_holds_of
    (hd : ∀ is : List Int, is.length ≤ 63 → ∃ js : List Int, Cr.callD (K07.pr.at 20) K07.dd__law_draws.N.length K07.dd__law_draws.body [.ilst is] [] = .ok (.lst (js.map .int)) [])
    (hl : ∀ js : List Int, ∃ dr', Cr.evB (K07.pr.at 21) K07.dd_law.body (.no :: .val .drw :: List.replicate (K07.dd_law.N.length - 2) .no) js.reverse = .ok (.rt (.bl true)) dr') : PySem.Challenge.rw_pinnedtunes_k07_whole_strips_with_and_wi.Holds := by
  w_on; o_law
  refine HandSHeadRun.head_any (r := OpenLaw.row PySem.Challenge.rw_pinnedtunes_k07_whole_strips_with_and_wi) (q := view (OpenLaw.row PySem.Challenge.rw_pinnedtunes_k07_whole_strips_with_and_wi).prog [34]) (H := K07.hk) (ob := K07.ob) (M := 4000) (loose := K07.nms) (d := HandSHeadRun.topDef (OpenLaw.row PySem.Challenge.rw_pinnedtunes_k07_whole_strips_with_and_wi).prog 34) (kwd := []) K07.ob_eq
    (by kernel_rfl) (fun s => by kernel_rfl) K07.run (by kernel_rfl) (by kernel_rfl) (by kernel_rfl) (by rfl) (by first | assumption | decide +kernel) (by decide +kernel) ⟨rfl, rfl, rfl, rfl, rfl, by decide +kernel⟩ ?hw ?hc
  case hw => w_witness2
  case hc =>
    refine L2.walk_ofE (l := PySem.Challenge.rw_pinnedtunes_k07_whole_strips_with_and_wi) (n := 63) (k := 23) (x := "script") (CX := L2.CX0) rfl (by decide) (by kernel_rfl) ⟨rfl, by decide, by decide⟩ ?F (fun _ _ _ _ z => z)
    intro w mg fa h Y G hmg0
    obtain ⟨K, KX, c⟩ := Y
    have hmg : mg ("law" : PySem.Str) = some (.ref fa) := by
      have e : (HandSHeadRun.topDef (OpenLaw.row PySem.Challenge.rw_pinnedtunes_k07_whole_strips_with_and_wi).prog 34).name = ("law" : PySem.Str) := by kernel_rfl
      rw [← e]
      exact hmg0
    obtain ⟨fd, hb, hF⟩ := K07.facts (P := (PySem.Challenge.rw_pinnedtunes_k07_whole_strips_with_and_wi).prog) (w := w) KX G hmg c hd hl
    exact ⟨K, fd, Cr.spLaw K, KX, hb, fun H a ns hl _ hS => ⟨a, ns, rfl, hl, hS, fun _ => rfl⟩, hF⟩

theorem PySem.Challenge.cw_pinnedtunes_k07_whole_strips_with_and_wi_holds : PySem.Challenge.rw_pinnedtunes_k07_whole_strips_with_and_wi.Holds := by
  exact PySem.Challenge.cw_pinnedtunes_k07_whole_strips_with_and_wi_holds_of K07.hd K07.hl
